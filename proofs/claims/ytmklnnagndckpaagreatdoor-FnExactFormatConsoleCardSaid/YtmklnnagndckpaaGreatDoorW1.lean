/- Records of a log: what a valid one is, walked; What a valid record is, and a record among the laws' helpers, walked; The lines of a log as plain lists of bytes: what a line is, how it is read, that there is one way alone; Numbers as decimal text: the library's, and the reference's own road to it; The law of EncodeRecord, walked; Logs read, as plain lists: cuts, parts, the records of a text; A text cut, split, verified, walked; The records at the start of a text: the program's road, the reference's; The reference's road through a text of records; What a valid log is; the laws of RecoverLog, IsValidLog, SyncLog; Appeals among the laws' helpers: sizes, copies, equality; walked; Lists of appeals among the laws' helpers: sizes and copies; walked; Copies of lists of appeals, walked; Small tests of appeals, walked; Rising lists, walked; Is an appeal valid? walked; Valid appeals, walked; Valid lists of appeals, walked -/
import Derived.Test.YtmklnnagndckpaaGreatDoorPeD
import Derived.Test.YtmklnnagndckpaaGreatDoorMc1
import Derived.Test.YtmklnnagndckpaaGreatDoorMc2
import Derived.Test.YtmklnnagndckpaaGreatDoorMc3
import Derived.Test.YtmklnnagndckpaaGreatDoorShelf
import Derived.Lib.ItoaNum
import Derived.Lib.IndexMore
import Derived.Lib.ItoaLen
set_option maxRecDepth 100000
set_option maxHeartbeats 4000000
set_option linter.all false
namespace Go.Pe.Tryz
open Go.Proofs.Tryz
def within (n a b : Int) : Bool := decide (a ≤ n) && decide (n ≤ b)
theorem within_fn (n a b : Int) : Fn prog 72 [.int .i64 n, .int .i64 a, .int .i64 b] (fun rs => rs = [.bool (within n a b)]) := by
  refine Fn_of' (fn := f72) (by exact func72) c72 r72 (n := 15) (by rfl) (rv := [.tmp 6]) (by rfl) (by simp) ?_
  unfold m72
  simp only [↓wA, ↓wC, wB, frzBE, frzBS, Nat.reduceEqDiff, Nat.reduceAdd, Nat.reduceSub, reduceIte, reduceCtorEq, Nat.reduceBEq, Nat.reduceLT, decide_true]
  refine execG_split (fun h => ?_) (fun h => ?_) <;> simp only [h, ↓wA, ↓wC, wB, frzBE, frzBS, Nat.reduceEqDiff, Nat.reduceAdd, Nat.reduceSub, reduceIte, reduceCtorEq, Nat.reduceBEq, Nat.reduceLT, decide_true]
  all_goals simp [within, h]
theorem l1In_fn (n a b : Int) : Fn prog 101 [.int .i64 n, .int .i64 a, .int .i64 b] (fun rs => rs = [.bool (within n a b)]) := by
  refine Fn_of' (fn := f101) (by exact func101) c101 r101 (n := 15) (by rfl) (rv := [.tmp 6]) (by rfl) (by simp) ?_
  unfold m101
  simp only [↓wA, ↓wC, wB, frzBE, frzBS, Nat.reduceEqDiff, Nat.reduceAdd, Nat.reduceSub, reduceIte, reduceCtorEq, Nat.reduceBEq, Nat.reduceLT, decide_true]
  refine execG_split (fun h => ?_) (fun h => ?_) <;> simp only [h, ↓wA, ↓wC, wB, frzBE, frzBS, Nat.reduceEqDiff, Nat.reduceAdd, Nat.reduceSub, reduceIte, reduceCtorEq, Nat.reduceBEq, Nat.reduceLT, decide_true]
  all_goals simp [within, h]
/-- a byte that may stand in a record. -/
def isP (b : UInt8) : Bool := within (b.toNat : Int) 32 126 && !decide ((b.toNat : Int) = 35)
def plain (s : List UInt8) : Bool := s.all isP
theorem plain_take {s : List UInt8} {i : Nat} {b : UInt8} (h : s[i]? = some b) (hp : plain (s.take i) = true) (hb : isP b = true) : plain (s.take (i + 1)) = true := by
  have hi := lt_of_get h
  rw [List.take_succ_eq_append_getElem hi]
  have : s[i] = b := by rw [List.getElem?_eq_getElem hi] at h; injection h
  unfold plain at *
  rw [List.all_append, hp, this]
  simp [hb]
theorem plain_no {s : List UInt8} {i : Nat} {b : UInt8} (h : s[i]? = some b) (hb : isP b = false) : plain s = false := by
  unfold plain
  rw [List.all_eq_false]
  exact ⟨b, List.mem_of_getElem? h, by simp [hb]⟩
theorem maxLen_eq : maxLen = 9223372036854775807 := rfl
theorem isPlain_fn (s : List UInt8) (hl : s.length ≤ maxLen) : Fn prog 225 [.str s] (fun rs => rs = [.bool (plain s)]) := by
  rw [maxLen_eq] at hl
  refine Fn_of' (fn := f225) (by exact func225) c225 r225 (n := 26) (by rfl) (rv := [.tmp 2]) (by rfl) (by simp) ?_
  unfold m225
  simp only [↓wA, ↓wC, wB, frzBE, frzBS, Nat.reduceEqDiff, Nat.reduceAdd, Nat.reduceSub, reduceIte, reduceCtorEq, Nat.reduceBEq, Nat.reduceLT, decide_true]
  refine exec_loop (fun i : Nat => ⟨[(0, .d (.str s)), (5, .d (.int .i64 s.length)), (6, .d (.int .i64 i))], []⟩)
    (fun i => i ≤ s.length ∧ plain (s.take i) = true) (fun i => s.length - i) 0 (weak_of [] rfl ⟨⟨rfl, rfl⟩, ⟨rfl, rfl⟩, ⟨rfl, rfl⟩, trivial⟩) ⟨Nat.zero_le _, by simp [plain]⟩ ?_
  rintro i ⟨hi, hp⟩
  by_cases hlt : i < s.length
  · obtain ⟨b, hb⟩ := get_lt hlt
    have hd : decide ((i : Int) < (s.length : Int)) = true := decide_eq_true (by omega)
    have h0 : (0 : Int) ≤ (i : Int) := by omega
    repeat' (first
        | (simp only [hd, h0, hb, Int.toNat_natCast, onC_true, ↓wA, ↓wC, wB, frzBE, frzBS, Nat.reduceEqDiff, Nat.reduceAdd, Nat.reduceSub, reduceIte, reduceCtorEq, Nat.reduceBEq, Nat.reduceLT, decide_true])
        | (refine onI_bare (by simp only [InR]; omega) ?_)
        | (refine execG_split (fun h => ?_) (fun h => ?_) <;> simp only [h])
        | (refine execC_split (fun h => ?_) (fun h => ?_) <;> (try simp only [h]))
        | (refine onPick_split (fun h => ?_) (fun h => ?_) <;> (try simp only [h])))
    all_goals first
      | (refine (congrArg (fun x => [D.bool x]) (plain_no hb ?_)).symm; simp_all [isP, within]; done)
      | (refine (congrArg (fun x => [D.bool x]) (plain_no hb ?_)).symm; simp_all [isP, within]; omega)
      | (exact ⟨i + 1, weak_of [] rfl ⟨⟨rfl, rfl⟩, ⟨rfl, rfl⟩, ⟨rfl, rfl⟩, trivial⟩, ⟨by omega, plain_take hb hp (by simp_all [isP, within] <;> omega)⟩, by omega⟩)
  · have hd : decide ((i : Int) < (s.length : Int)) = false := decide_eq_false (by omega)
    simp only [hd, ↓wA, ↓wC, wB, frzBE, frzBS, Nat.reduceEqDiff, Nat.reduceAdd, Nat.reduceSub, reduceIte, reduceCtorEq, Nat.reduceBEq, Nat.reduceLT, decide_true]
    rw [List.take_of_length_le (by omega)] at hp
    rw [hp]
theorem l27Plain_fn (s : List UInt8) (m : Int) (hl : s.length ≤ maxLen) : Fn prog 220 [.str s, .int .i64 m] (fun rs => rs = [.bool (plain s && decide ((s.length : Int) ≤ m))]) := by
  rw [maxLen_eq] at hl
  refine Fn_of' (fn := f220) (by exact func220) c220 r220 (n := 28) (by rfl) (rv := [.tmp 4]) (by rfl) (by simp) ?_
  unfold m220
  simp only [↓wA, ↓wC, wB, frzBE, frzBS, Nat.reduceEqDiff, Nat.reduceAdd, Nat.reduceSub, reduceIte, reduceCtorEq, Nat.reduceBEq, Nat.reduceLT, decide_true]
  refine exec_loop (fun i : Nat => ⟨[(0, .d (.str s)), (1, .d (.int .i64 m)), (5, .d (.int .i64 i))], []⟩)
    (fun i => i ≤ s.length ∧ plain (s.take i) = true) (fun i => s.length - i) 0 (weak_of [] rfl ⟨⟨rfl, rfl⟩, ⟨rfl, rfl⟩, ⟨rfl, rfl⟩, trivial⟩) ⟨Nat.zero_le _, by simp [plain]⟩ ?_
  rintro i ⟨hi, hp⟩
  by_cases hlt : i < s.length
  · obtain ⟨b, hb⟩ := get_lt hlt
    have hd : decide ((i : Int) < (s.length : Int)) = true := decide_eq_true (by omega)
    have h0 : (0 : Int) ≤ (i : Int) := by omega
    have hbl : (b.toNat : Int) < 256 := by have := b.toNat_lt; omega
    repeat' (first
        | (simp only [hd, h0, hb, Int.toNat_natCast, onC_true, ↓wA, ↓wC, wB, frzBE, frzBS, Nat.reduceEqDiff, Nat.reduceAdd, Nat.reduceSub, reduceIte, reduceCtorEq, Nat.reduceBEq, Nat.reduceLT, decide_true])
        | (refine call_det (l1In_fn _ _ _) rfl rfl ?_)
        | (refine callP_det (l1In_fn _ _ _) rfl rfl ?_)
        | (refine onI_bare (by simp only [InR]; omega) ?_)
        | (refine execG_split (fun h => ?_) (fun h => ?_) <;> simp only [h])
        | (refine execC_split (fun h => ?_) (fun h => ?_) <;> (try simp only [h]))
        | (refine onPick_split (fun h => ?_) (fun h => ?_) <;> (try simp only [h])))
    all_goals first
      | (rw [plain_no hb (by simp_all [isP])]; rfl)
      | (exact ⟨i + 1, weak_of [] rfl ⟨⟨rfl, rfl⟩, ⟨rfl, rfl⟩, ⟨rfl, rfl⟩, trivial⟩, ⟨by omega, plain_take hb hp (by simp_all [isP])⟩, by omega⟩)
  · have hd : decide ((i : Int) < (s.length : Int)) = false := decide_eq_false (by omega)
    simp only [hd, ↓wA, ↓wC, wB, frzBE, frzBS, Nat.reduceEqDiff, Nat.reduceAdd, Nat.reduceSub, reduceIte, reduceCtorEq, Nat.reduceBEq, Nat.reduceLT, decide_true]
    rw [List.take_of_length_le (by omega)] at hp
    rw [hp]
    simp
/-- does a byte stand in a text? -/
theorem l1Stands_fn (s : List UInt8) (c : UInt8) (hl : s.length ≤ maxLen) : Fn prog 221 [.str s, .int .u8 (c.toNat : Int)] (fun rs => rs = [.bool (s.contains c)]) := by
  rw [maxLen_eq] at hl
  refine Fn_of' (fn := f221) (by exact func221) c221 r221 (n := 17) (by rfl) (rv := [.tmp 4]) (by rfl) (by simp) ?_
  unfold m221
  simp only [↓wA, ↓wC, wB, frzBE, frzBS, Nat.reduceEqDiff, Nat.reduceAdd, Nat.reduceSub, reduceIte, reduceCtorEq, Nat.reduceBEq, Nat.reduceLT, decide_true]
  refine exec_loop (fun i : Nat => ⟨[(0, .d (.str s)), (1, .d (.int .u8 (c.toNat : Int))), (5, .d (.int .i64 i))], []⟩)
    (fun i => i ≤ s.length ∧ c ∉ s.take i) (fun i => s.length - i) 0 (weak_of [] rfl ⟨⟨rfl, rfl⟩, ⟨rfl, rfl⟩, ⟨rfl, rfl⟩, trivial⟩) ⟨Nat.zero_le _, by simp⟩ ?_
  rintro i ⟨hi, hp⟩
  by_cases hlt : i < s.length
  · obtain ⟨b, hb⟩ := get_lt hlt
    have hd : decide ((i : Int) < (s.length : Int)) = true := decide_eq_true (by omega)
    have h0 : (0 : Int) ≤ (i : Int) := by omega
    have hbc : decide ((b.toNat : Int) = (c.toNat : Int)) = decide (b = c) := by
      apply decide_eq_decide.2
      constructor
      · intro h; exact UInt8.toNat_inj.1 (by omega)
      · intro h; rw [h]
    by_cases hc : b = c
    · have hm : s.contains c = true := by rw [List.contains_iff_mem]; rw [← hc]; exact List.mem_of_getElem? hb
      simp only [hd, h0, hb, Int.toNat_natCast, onC_true, hbc, hc, hm, ↓wA, ↓wC, wB, frzBE, frzBS, Nat.reduceEqDiff, Nat.reduceAdd, Nat.reduceSub, reduceIte, reduceCtorEq, Nat.reduceBEq, Nat.reduceLT, decide_true]
    · simp only [hd, h0, hb, Int.toNat_natCast, onC_true, hbc, hc, ↓wA, ↓wC, wB, frzBE, frzBS, Nat.reduceEqDiff, Nat.reduceAdd, Nat.reduceSub, reduceIte, reduceCtorEq, Nat.reduceBEq, Nat.reduceLT, decide_true]
      refine onI_bare (by simp only [InR]; omega) ?_
      refine ⟨i + 1, weak_of [] rfl ⟨⟨rfl, rfl⟩, ⟨rfl, rfl⟩, ⟨rfl, rfl⟩, trivial⟩, ⟨by omega, ?_⟩, by omega⟩
      have hi := lt_of_get hb
      rw [List.take_succ_eq_append_getElem hi]
      have : s[i] = b := by rw [List.getElem?_eq_getElem hi] at hb; injection hb
      rw [this]
      simp only [List.mem_append, List.mem_singleton, not_or]
      exact ⟨hp, fun h => hc h.symm⟩
  · have hd : decide ((i : Int) < (s.length : Int)) = false := decide_eq_false (by omega)
    simp only [hd, ↓wA, ↓wC, wB, frzBE, frzBS, Nat.reduceEqDiff, Nat.reduceAdd, Nat.reduceSub, reduceIte, reduceCtorEq, Nat.reduceBEq, Nat.reduceLT, decide_true]
    rw [List.take_of_length_le (by omega)] at hp
    have : s.contains c = false := by
      cases h : s.contains c with
      | false => rfl
      | true => exact absurd (List.contains_iff_mem.1 h) hp
    rw [this]
/-- a record's two texts. -/
def recOK (c r : List UInt8) : Bool := within c.length 1 160 && decide ((r.length : Int) ≤ 200) && plain c && plain r && !c.contains 64
def recD (c r : List UInt8) : D := .st (.cons (.str c) (.cons (.str r) .nil))
theorem l27Good_fn (c r : List UInt8) (hc : c.length ≤ maxLen) (hr : r.length ≤ maxLen) : Fn prog 192 [recD c r] (fun rs => rs = [.bool (recOK c r)]) := by
  have hne : (!decide (c = ([] : List UInt8))) = decide (1 ≤ (c.length : Int)) := by
    cases c with
    | nil => rfl
    | cons a c => simp; omega
  have h64 : (64 : Int) = ((64 : UInt8).toNat : Int) := rfl
  refine Fn_of' (fn := f192) (by exact func192) c192 r192 (n := 22) (by rfl) (rv := [.tmp 2]) (by rfl) (by simp) ?_
  unfold m192
  simp only [recD]
  repeat' (first
      | (simp only [hne, ↓wA, ↓wC, wB, frzBE, frzBS, Nat.reduceEqDiff, Nat.reduceAdd, Nat.reduceSub, reduceIte, reduceCtorEq, Nat.reduceBEq, Nat.reduceLT, decide_true])
      | (refine call_det (l27Plain_fn _ _ hc) rfl rfl ?_)
      | (refine callP_det (l27Plain_fn _ _ hc) rfl rfl ?_)
      | (refine call_det (l27Plain_fn _ _ hr) rfl rfl ?_)
      | (refine callP_det (l27Plain_fn _ _ hr) rfl rfl ?_)
      | (refine call_det (l1Stands_fn c 64 hc) rfl rfl ?_)
      | (refine callP_det (l1Stands_fn c 64 hc) rfl rfl ?_)
      | (refine execG_split (fun h => ?_) (fun h => ?_) <;> simp only [h])
      | (refine execC_split (fun h => ?_) (fun h => ?_) <;> (try simp only [h]))
      | (refine onPick_split (fun h => ?_) (fun h => ?_) <;> (try simp only [h])))
  all_goals (cases hpc : plain c <;> cases hpr : plain r <;> simp_all [recOK, within] <;> omega)
end Go.Pe.Tryz

set_option maxRecDepth 100000
set_option maxHeartbeats 4000000
set_option linter.all false
namespace Go.Pe.Tryz
open Go.Proofs.Tryz
theorem indexByte_has : ∀ (s : List UInt8) (c : UInt8), decide (0 ≤ Go.Lib.indexByte s c) = s.contains c
  | [], c => by simp [Go.Lib.indexByte]
  | b :: s, c => by
    have ih := indexByte_has s c
    have hge := Go.Lib.indexByte_ge s c
    unfold Go.Lib.indexByte
    by_cases h : b = c
    · simp [h]
    · have h1 : (b == c) = false := by simpa using h
      have h2 : (b :: s).contains c = s.contains c := by simp [List.contains_cons, h, eq_comm]
      simp only [h1, Bool.false_eq_true, if_false, h2]
      rw [← ih]
      split
      · rename_i h3
        have : Go.Lib.indexByte s c = -1 := by simpa using h3
        simp [this]
      · rename_i h3
        have : Go.Lib.indexByte s c ≠ -1 := by simpa using h3
        apply decide_eq_decide.2
        omega
theorem contains_fn (s : List UInt8) (c : UInt8) : Fn prog 224 [.str s, .str [c]] (fun rs => rs = [.bool (s.contains c)]) :=
  Fn_lib rfl rfl fun w _ => (Go.Proofs.Tryz.strings_Contains_one ⟨s.toArray⟩ c w).mono (by
    rintro e w' ⟨rfl, rfl⟩
    refine ⟨?_, Ext.refl _⟩
    rw [← indexByte_has]
    simp [retV])
theorem isValidRecord_fn (c r : List UInt8) (hc : c.length ≤ maxLen) (hr : r.length ≤ maxLen) : Fn prog 196 [recD c r] (fun rs => rs = [.bool (recOK c r)]) := by
  refine Fn_of' (fn := f196) (by exact func196) c196 r196 (n := 29) (by rfl) (rv := [.tmp 2]) (by rfl) (by simp) ?_
  unfold m196
  simp only [recD]
  repeat' (first
      | (simp only [↓wA, ↓wC, wB, frzBE, frzBS, Nat.reduceEqDiff, Nat.reduceAdd, Nat.reduceSub, reduceIte, reduceCtorEq, Nat.reduceBEq, Nat.reduceLT, decide_true])
      | (refine call_det (within_fn _ _ _) rfl rfl ?_)
      | (refine callP_det (within_fn _ _ _) rfl rfl ?_)
      | (refine call_det (isPlain_fn _ hc) rfl rfl ?_)
      | (refine callP_det (isPlain_fn _ hc) rfl rfl ?_)
      | (refine call_det (isPlain_fn _ hr) rfl rfl ?_)
      | (refine callP_det (isPlain_fn _ hr) rfl rfl ?_)
      | (refine call_det (contains_fn c 64) rfl rfl ?_)
      | (refine callP_det (contains_fn c 64) rfl rfl ?_)
      | (refine execG_split (fun h => ?_) (fun h => ?_) <;> simp only [h])
      | (refine execC_split (fun h => ?_) (fun h => ?_) <;> (try simp only [h]))
      | (refine onPick_split (fun h => ?_) (fun h => ?_) <;> (try simp only [h])))
  all_goals (cases hpc : plain c <;> cases hpr : plain r <;> simp_all [recOK, within] <;> omega)
end Go.Pe.Tryz

set_option maxRecDepth 100000
set_option maxHeartbeats 4000000
set_option linter.all false
namespace Go.Pe.Tryz
/-- a byte of a numeral. -/
def isDig (b : UInt8) : Prop := b = 45 ∨ (48 ≤ b.toNat ∧ b.toNat ≤ 57)
theorem decDigits_dig : ∀ (u : Nat), ∀ b ∈ Lib.decDigits u, 48 ≤ b.toNat ∧ b.toNat ≤ 57 := by
  intro u
  induction u using Nat.strongRecOn with
  | _ u ih =>
    intro b hb
    rw [Lib.decDigits] at hb
    have one : ∀ d : Nat, d < 10 → (UInt8.ofNat (48 + d)).toNat = 48 + d := fun d hd => by
      rw [UInt8.toNat_ofNat']; omega
    by_cases h : u < 10
    · rw [dif_pos h] at hb
      simp only [List.mem_singleton] at hb
      rw [hb, one u h]; omega
    · rw [dif_neg h] at hb
      rcases List.mem_append.1 hb with hb | hb
      · exact ih (u / 10) (by omega) b hb
      · simp only [List.mem_singleton] at hb
        rw [hb, one (u % 10) (by omega)]; omega
theorem itoa_dig (n : Int) : ∀ b ∈ Lib.itoa n, isDig b := by
  intro b hb
  unfold Lib.itoa at hb
  split at hb
  · rcases List.mem_cons.1 hb with hb | hb
    · exact .inl hb
    · exact .inr (decDigits_dig _ b hb)
  · exact .inr (decDigits_dig _ b hb)
theorem itoa_not (n : Int) (c : UInt8) (hc : c ≠ 45) (h : c.toNat < 48 ∨ 57 < c.toNat) : c ∉ Lib.itoa n := fun hm => by
  rcases itoa_dig n c hm with h1 | h1
  · exact hc h1
  · omega
/-- what stands ahead of a byte, and behind it. -/
def before (x : UInt8) (s : List UInt8) : List UInt8 := s.takeWhile (· != x)
def after (x : UInt8) (s : List UInt8) : List UInt8 := (s.dropWhile (· != x)).drop 1
theorem before_app {x : UInt8} : ∀ {s t : List UInt8}, x ∉ s → before x (s ++ x :: t) = s
  | [], t, _ => by simp [before]
  | b :: s, t, h => by
    simp only [List.mem_cons, not_or] at h
    have hb : (b != x) = true := by simpa [bne_iff_ne] using fun e => h.1 e.symm
    have := before_app (t := t) h.2
    unfold before at *
    simp only [List.cons_append, List.takeWhile_cons, hb, if_true, this]
theorem after_app {x : UInt8} : ∀ {s t : List UInt8}, x ∉ s → after x (s ++ x :: t) = t
  | [], t, _ => by simp [after]
  | b :: s, t, h => by
    simp only [List.mem_cons, not_or] at h
    have hb : (b != x) = true := by simpa [bne_iff_ne] using fun e => h.1 e.symm
    have := after_app (t := t) h.2
    unfold after at *
    simp only [List.cons_append, List.dropWhile_cons, hb, if_true, this]
theorem before_none {x : UInt8} : ∀ {s : List UInt8}, x ∉ s → before x s = s
  | [], _ => rfl
  | b :: s, h => by
    simp only [List.mem_cons, not_or] at h
    have hb : (b != x) = true := by simpa [bne_iff_ne] using fun e => h.1 e.symm
    have := before_none h.2
    unfold before at *
    simp only [List.takeWhile_cons, hb, if_true, this]
theorem after_none {x : UInt8} : ∀ {s : List UInt8}, x ∉ s → after x s = []
  | [], _ => rfl
  | b :: s, h => by
    simp only [List.mem_cons, not_or] at h
    have hb : (b != x) = true := by simpa [bne_iff_ne] using fun e => h.1 e.symm
    have := after_none h.2
    unfold after at *
    simp only [List.dropWhile_cons, hb, if_true, this]
theorem split_at {x : UInt8} : ∀ {s : List UInt8}, x ∈ s → s = before x s ++ x :: after x s
  | b :: s, h => by
    by_cases e : b = x
    · subst e; simp [before, after]
    · have hb : (b != x) = true := by simpa [bne_iff_ne] using e
      have hm : x ∈ s := by
        rcases List.mem_cons.1 h with h | h
        · exact absurd h.symm e
        · exact h
      have ih := split_at hm
      unfold before after at *
      simp only [List.takeWhile_cons, List.dropWhile_cons, hb, if_true, List.cons_append]
      rw [← ih]
theorem before_not (x : UInt8) : ∀ (s : List UInt8), x ∉ before x s
  | [] => by simp [before]
  | b :: s => by
    by_cases e : b = x
    · subst e; simp [before]
    · have hb : (b != x) = true := by simpa [bne_iff_ne] using e
      have ih := before_not x s
      unfold before at *
      simp only [List.takeWhile_cons, hb, if_true, List.mem_cons, not_or]
      exact ⟨fun h => e h.symm, ih⟩
theorem before_le (x : UInt8) (s : List UInt8) : (before x s).length ≤ s.length := (List.takeWhile_sublist _).length_le
theorem after_len {x : UInt8} {s : List UInt8} (h : x ∈ s) : (before x s).length + 1 + (after x s).length = s.length := by
  have := congrArg List.length (split_at h)
  simp at this; omega
theorem before_take {x : UInt8} (s : List UInt8) : before x s = s.take (before x s).length := by
  by_cases h : x ∈ s
  · have h1 : (before x s ++ x :: after x s).take (before x s).length = before x s := List.take_left' rfl
    rw [← split_at h] at h1
    exact h1.symm
  · rw [before_none h, List.take_length]
theorem after_drop {x : UInt8} {s : List UInt8} (h : x ∈ s) : after x s = s.drop ((before x s).length + 1) := by
  have h1 : (before x s ++ x :: after x s).drop ((before x s).length + 1) = after x s := by
    rw [← List.drop_drop, List.drop_left' rfl]; rfl
  rw [← split_at h] at h1
  exact h1.symm
/-- the checksum. -/
def ckf (h : Int) (b : UInt8) : Int := (41 * h + (b.toNat : Int) + 1) % 999979
def ck (s : List UInt8) : Int := s.foldl ckf 7
theorem ck_bd (s : List UInt8) : 0 ≤ ck s ∧ ck s < 999979 := by
  unfold ck
  have : ∀ (s : List UInt8) (h : Int), 0 ≤ h ∧ h < 999979 → 0 ≤ s.foldl ckf h ∧ s.foldl ckf h < 999979 := by
    intro s
    induction s with
    | nil => intro h hh; exact hh
    | cons b s ih =>
      intro h hh
      refine ih _ ?_
      unfold ckf
      omega
  exact this s 7 (by omega)
def sealL (s : List UInt8) : List UInt8 := s ++ 35 :: Lib.itoa (ck s)
def body (k : Int) (c r : List UInt8) : List UInt8 := Lib.itoa k ++ 32 :: (c ++ 64 :: r)
def line (k : Int) (c r : List UInt8) : List UInt8 := sealL (body k c r)
theorem plain_not {s : List UInt8} (h : plain s = true) {x : UInt8} (hx : isP x = false) : x ∉ s := fun hm => by
  have := (List.all_eq_true.1 h) x hm
  rw [hx] at this; cases this
theorem rec_parts {c r : List UInt8} (h : recOK c r = true) : 1 ≤ c.length ∧ c.length ≤ 160 ∧ r.length ≤ 200 ∧ plain c = true ∧ plain r = true ∧ (64 : UInt8) ∉ c := by
  simp only [recOK, within, Bool.and_eq_true, decide_eq_true_eq, Bool.not_eq_true'] at h
  obtain ⟨⟨⟨⟨⟨h1, h2⟩, h3⟩, h4⟩, h5⟩, h6⟩ := h
  refine ⟨by omega, by omega, by omega, h4, h5, fun hm => ?_⟩
  rw [List.contains_iff_mem.2 hm] at h6; cases h6
theorem body_no35 {k : Int} {c r : List UInt8} (h : recOK c r = true) : (35 : UInt8) ∉ body k c r := by
  obtain ⟨_, _, _, hc, hr, _⟩ := rec_parts h
  unfold body
  simp only [List.mem_append, List.mem_cons, not_or]
  exact ⟨itoa_not k 35 (by decide) (by decide), by decide, plain_not hc (by decide), by decide, plain_not hr (by decide)⟩
/-- a line is read as a record with the number k. -/
def rd (k : Int) (L : List UInt8) : Option (List UInt8 × List UInt8) :=
  let rest := (before 35 L).drop ((Lib.itoa k).length + 1)
  if recOK (before 64 rest) (after 64 rest) = true ∧ line k (before 64 rest) (after 64 rest) = L then some (before 64 rest, after 64 rest) else none
theorem line_before {k : Int} {c r : List UInt8} (h : recOK c r = true) : before 35 (line k c r) = body k c r := before_app (body_no35 h)
theorem body_rest {k : Int} {c r : List UInt8} : (body k c r).drop ((Lib.itoa k).length + 1) = c ++ 64 :: r := by
  unfold body
  rw [← List.drop_drop, List.drop_left' rfl]; rfl
theorem rd_iff {k : Int} {L c r : List UInt8} : rd k L = some (c, r) ↔ recOK c r = true ∧ line k c r = L := by
  constructor
  · intro h
    simp only [rd] at h
    split at h
    · rename_i h1
      injection h with h
      injection h with h2 h3
      subst h2 h3
      exact h1
    · cases h
  · rintro ⟨h1, rfl⟩
    have h64 := (rec_parts h1).2.2.2.2.2
    simp only [rd, line_before h1, body_rest, before_app h64, after_app h64]
    rw [if_pos ⟨h1, trivial⟩]
/-- the records at the start of a text, and how many bytes they have. -/
def opens : Nat → Int → List UInt8 → List (List UInt8 × List UInt8) × Nat
  | 0, _, _ => ([], 0)
  | n + 1, k, s => if (10 : UInt8) ∈ s then
      match rd k (before 10 s) with
      | some e => (e :: (opens n (k + 1) (after 10 s)).1, (before 10 s).length + 1 + (opens n (k + 1) (after 10 s)).2)
      | none => ([], 0)
    else ([], 0)
theorem opens_le : ∀ (n : Nat) (k : Int) (s : List UInt8), (opens n k s).2 ≤ s.length ∧ (opens n k s).1.length ≤ n
  | 0, _, _ => by simp [opens]
  | n + 1, k, s => by
    simp only [opens]
    split
    · rename_i h
      split
      · have ih := opens_le n (k + 1) (after 10 s)
        have := after_len h
        simp only [List.length_cons]
        omega
      · simp
    · simp
end Go.Pe.Tryz

set_option maxRecDepth 100000
set_option maxHeartbeats 4000000
set_option linter.all false
namespace Go.Pe.Tryz
open Go.Proofs.Tryz Go.Sort
theorem Ext.grow {w : World} (k : Nat) (os : Array Obj) : Ext w (Go.Sort.grow (w.drewN k) os) := by
  refine ⟨rfl, rfl, rfl, ?_, ?_⟩
  · simp [Go.Sort.grow, World.drewN]
  · intro b hb
    simp only [Go.Sort.grow]
    exact Array.getElem?_append_left (xs := w.heap) (ys := os) hb
theorem itoa_fn (n : Int) (h : InR .i64 n) : Fn prog 109 [.int .i64 n] (fun rs => rs = [.str (Lib.itoa n)]) :=
  Fn_lib rfl rfl fun w hF => (Go.Proofs.Tryz.strconv_Itoa n (by simp only [InR] at h; omega) (by simp only [InR] at h; omega) w (tabOf hF)).mono (by
    rintro e w' ⟨rfl, k, os, rfl⟩
    exact ⟨rfl, Ext.grow k os⟩)
theorem decimal_fn (n : Int) (h : InR .i64 n) : Fn prog 63 [.int .i64 n] (fun rs => rs = [.str (Lib.itoa n)]) := by
  refine Fn_of' (fn := f63) (by exact func63) c63 r63 (n := 5) (by rfl) (rv := [.tmp 2]) (by rfl) (by simp) ?_
  unfold m63
  repeat' (first
      | (simp only [↓wA, ↓wC, wB, frzBE, frzBS, Nat.reduceEqDiff, Nat.reduceAdd, Nat.reduceSub, reduceIte, reduceCtorEq, Nat.reduceBEq, Nat.reduceLT, decide_true])
      | (refine call_det (itoa_fn n h) rfl rfl ?_)
      | (refine callP_det (itoa_fn n h) rfl rfl ?_)
      | (refine execG_split (fun h => ?_) (fun h => ?_) <;> simp only [h])
      | (refine execC_split (fun h => ?_) (fun h => ?_) <;> (try simp only [h]))
      | (refine onPick_split (fun h => ?_) (fun h => ?_) <;> (try simp only [h])))
/-- the digit of a number below ten, cut from the ten digits. -/
theorem digit_cut : ∀ d : Fin 10, ((([48, 49, 50, 51, 52, 53, 54, 55, 56, 57] : List UInt8).take (d.val + 1)).drop d.val) = [UInt8.ofNat (48 + d.val)] := by decide
/-- numbers as text, by the reference's own road. -/
theorem decDigits_small {u : Nat} (h : u < 10) : Lib.decDigits u = [UInt8.ofNat (48 + u)] := by
  rw [Lib.decDigits, dif_pos h]
theorem decDigits_more {u : Nat} (h : ¬ u < 10) : Lib.decDigits u = Lib.decDigits (u / 10) ++ [UInt8.ofNat (48 + u % 10)] := by
  rw [Lib.decDigits, dif_neg h]
theorem cut_digit (d : Nat) (h : d < 10) : ((([48, 49, 50, 51, 52, 53, 54, 55, 56, 57] : List UInt8).take (d + 1)).drop d) = [UInt8.ofNat (48 + d)] := digit_cut ⟨d, h⟩
theorem itoa_nat (u : Nat) : Lib.itoa (u : Int) = Lib.decDigits u := by
  unfold Lib.itoa
  rw [if_neg (by omega)]
  simp
theorem decDigits_le (u : Nat) (h : u ≤ 9223372036854775807) : (Lib.decDigits u).length ≤ 21 := by
  rw [← itoa_nat]
  exact Lib.itoa_length_le (u : Int) (by omega) (by omega)
theorem itoa_le (n : Int) (h : InR .i64 n) : (Lib.itoa n).length ≤ 21 := by
  simp only [InR] at h
  exact Lib.itoa_length_le n (by omega) (by omega)
theorem l1Num_nat : ∀ (u : Nat), u ≤ 9223372036854775807 → Fn prog 61 [.int .i64 (u : Int)] (fun rs => rs = [.str (Lib.decDigits u)]) := by
  intro u
  induction u using Nat.strongRecOn with
  | _ u ih =>
    intro hu
    have h0 : decide ((u : Int) < 0) = false := decide_eq_false (by omega)
    refine Fn_of' (fn := f61) (by exact func61) c61 r61 (n := 25) (by rfl) (rv := [.tmp 2]) (by rfl) (by simp) ?_
    unfold m61
    try simp only [h0, ↓wA, ↓wC, wB, frzBE, frzBS, Nat.reduceEqDiff, Nat.reduceAdd, Nat.reduceSub, reduceIte, reduceCtorEq, Nat.reduceBEq, Nat.reduceLT, decide_true]
    by_cases h : u < 10
    · have hd : decide ((u : Int) < 10) = true := decide_eq_true (by omega)
      have hp : (0 : Int) ≤ (u : Int) := by omega
      try simp only [hd, ↓wA, ↓wC, wB, frzBE, frzBS, Nat.reduceEqDiff, Nat.reduceAdd, Nat.reduceSub, reduceIte, reduceCtorEq, Nat.reduceBEq, Nat.reduceLT, decide_true]
      refine onI_bare (by simp only [InR]; omega) ?_
      try simp only [hd, hp, ↓wA, ↓wC, wB, frzBE, frzBS, Nat.reduceEqDiff, Nat.reduceAdd, Nat.reduceSub, reduceIte, reduceCtorEq, Nat.reduceBEq, Nat.reduceLT, decide_true]
      refine onC_i ⟨by omega, by omega⟩ ?_
      rw [show ((u : Int) + 1).toNat = u + 1 by omega, Int.toNat_natCast, cut_digit u h, decDigits_small h]
    · have hd : decide ((u : Int) < 10) = false := decide_eq_false (by omega)
      have hq : ((u : Int)).tdiv 10 = ((u / 10 : Nat) : Int) := by rw [Int.tdiv_eq_ediv_of_nonneg (by omega)]; omega
      have hr : ((u : Int)).tmod 10 = ((u % 10 : Nat) : Int) := by rw [Int.tmod_eq_emod_of_nonneg (by omega)]; omega
      try simp only [hd, hq, hr, ↓wA, ↓wC, wB, frzBE, frzBS, Nat.reduceEqDiff, Nat.reduceAdd, Nat.reduceSub, reduceIte, reduceCtorEq, Nat.reduceBEq, Nat.reduceLT, decide_true]
      refine onC_i (by decide) ?_
      refine onI_bare (by simp only [InR]; omega) ?_
      refine callP_det (ih (u / 10) (by omega) (by omega)) rfl rfl ?_
      try simp only [hr, ↓wA, ↓wC, wB, frzBE, frzBS, Nat.reduceEqDiff, Nat.reduceAdd, Nat.reduceSub, reduceIte, reduceCtorEq, Nat.reduceBEq, Nat.reduceLT, decide_true]
      refine onC_i (by decide) ?_
      refine onC_i (by decide) ?_
      refine onI_bare (by simp only [InR]; omega) ?_
      have hp : (0 : Int) ≤ ((u % 10 : Nat) : Int) := by omega
      try simp only [hp, ↓wA, ↓wC, wB, frzBE, frzBS, Nat.reduceEqDiff, Nat.reduceAdd, Nat.reduceSub, reduceIte, reduceCtorEq, Nat.reduceBEq, Nat.reduceLT, decide_true]
      refine onC_i ⟨by omega, by omega⟩ ?_
      rw [show (((u % 10 : Nat) : Int) + 1).toNat = u % 10 + 1 by omega, Int.toNat_natCast, cut_digit (u % 10) (by omega)]
      try simp only [↓wA, ↓wC, wB, frzBE, frzBS, Nat.reduceEqDiff, Nat.reduceAdd, Nat.reduceSub, reduceIte, reduceCtorEq, Nat.reduceBEq, Nat.reduceLT, decide_true]
      refine onC_i (by have := decDigits_le (u / 10) (by omega); omega) ?_
      rw [decDigits_more h]
theorem l1Num_fn (n : Int) (h0 : 0 ≤ n) (h : InR .i64 n) : Fn prog 61 [.int .i64 n] (fun rs => rs = [.str (Lib.itoa n)]) := by
  obtain ⟨u, rfl⟩ := Int.eq_ofNat_of_zero_le h0
  rw [itoa_nat]
  exact l1Num_nat u (by simp only [InR] at h; omega)
end Go.Pe.Tryz

set_option maxRecDepth 100000
set_option maxHeartbeats 4000000
set_option linter.all false
namespace Go.Pe.Tryz
open Go.Proofs.Tryz Go.Sort
theorem checksum_fn (s : List UInt8) (hl : s.length ≤ maxLen) : Fn prog 219 [.str s] (fun rs => rs = [.int .i64 (ck s)]) := by
  rw [maxLen_eq] at hl
  refine Fn_of' (fn := f219) (by exact func219) c219 r219 (n := 21) (by rfl) (rv := [.tmp 2]) (by rfl) (by simp) ?_
  unfold m219
  simp only [↓wA, ↓wC, wB, frzBE, frzBS, Nat.reduceEqDiff, Nat.reduceAdd, Nat.reduceSub, reduceIte, reduceCtorEq, Nat.reduceBEq, Nat.reduceLT, decide_true]
  refine exec_loop (fun i : Nat => ⟨[(0, .d (.str s)), (3, .d (.int .i64 (ck (s.take i)))), (6, .d (.int .i64 s.length)), (7, .d (.int .i64 i))], []⟩)
    (fun i => i ≤ s.length) (fun i => s.length - i) 0 (weak_of [] rfl ⟨⟨rfl, rfl⟩, ⟨rfl, rfl⟩, ⟨rfl, rfl⟩, ⟨rfl, rfl⟩, trivial⟩) (Nat.zero_le _) ?_
  rintro i hi
  by_cases hlt : i < s.length
  · obtain ⟨b, hb⟩ := get_lt hlt
    have hd : decide ((i : Int) < (s.length : Int)) = true := decide_eq_true (by omega)
    have h0 : (0 : Int) ≤ (i : Int) := by omega
    have hbl : (b.toNat : Int) < 256 := by have := b.toNat_lt; omega
    have hck := ck_bd (s.take i)
    have hne : decide ((999979 : Int) = 0) = false := by decide
    have hstep : ck (s.take (i + 1)) = (41 * ck (s.take i) + b.toNat + 1) % 999979 := by
      have hi := lt_of_get hb
      rw [List.take_succ_eq_append_getElem hi]
      have : s[i] = b := by rw [List.getElem?_eq_getElem hi] at hb; injection hb
      unfold ck
      rw [List.foldl_append, this]; rfl
    have htm : (41 * ck (s.take i) + b.toNat + 1).tmod 999979 = ck (s.take (i + 1)) := by rw [hstep, Int.tmod_eq_emod_of_nonneg (by omega)]
    have h99 : (999979 : Int) ≠ 0 := by decide
    repeat' (first
        | (simp only [hd, h0, hb, Int.toNat_natCast, onC_true, htm, h99, ne_eq, not_false_eq_true, ↓wA, ↓wC, wB, frzBE, frzBS, Nat.reduceEqDiff, Nat.reduceAdd, Nat.reduceSub, reduceIte, reduceCtorEq, Nat.reduceBEq, Nat.reduceLT, decide_true])
        | (refine onC_i (by decide) ?_)
        | (refine onI_bare (by simp only [InR]; omega) ?_)
        | (refine execG_split (fun h => ?_) (fun h => ?_) <;> simp only [h])
        | (refine execC_split (fun h => ?_) (fun h => ?_) <;> (try simp only [h]))
        | (refine onPick_split (fun h => ?_) (fun h => ?_) <;> (try simp only [h])))
    all_goals exact ⟨i + 1, weak_of [] rfl ⟨⟨rfl, rfl⟩, ⟨rfl, rfl⟩, ⟨rfl, rfl⟩, ⟨rfl, rfl⟩, trivial⟩, by omega, by omega⟩
  · have hd : decide ((i : Int) < (s.length : Int)) = false := decide_eq_false (by omega)
    simp only [hd, ↓wA, ↓wC, wB, frzBE, frzBS, Nat.reduceEqDiff, Nat.reduceAdd, Nat.reduceSub, reduceIte, reduceCtorEq, Nat.reduceBEq, Nat.reduceLT, decide_true]
    rw [List.take_of_length_le (by omega)]
theorem l1Sum_fn (s : List UInt8) (hl : s.length ≤ maxLen) : Fn prog 191 [.str s] (fun rs => rs = [.int .i64 (ck s)]) := by
  rw [maxLen_eq] at hl
  refine Fn_of' (fn := f191) (by exact func191) c191 r191 (n := 21) (by rfl) (rv := [.tmp 2]) (by rfl) (by simp) ?_
  unfold m191
  simp only [↓wA, ↓wC, wB, frzBE, frzBS, Nat.reduceEqDiff, Nat.reduceAdd, Nat.reduceSub, reduceIte, reduceCtorEq, Nat.reduceBEq, Nat.reduceLT, decide_true]
  refine exec_loop (fun i : Nat => ⟨[(0, .d (.str s)), (3, .d (.int .i64 (ck (s.take i)))), (4, .d (.int .i64 i))], []⟩)
    (fun i => i ≤ s.length) (fun i => s.length - i) 0 (weak_of [] rfl ⟨⟨rfl, rfl⟩, ⟨rfl, rfl⟩, ⟨rfl, rfl⟩, trivial⟩) (Nat.zero_le _) ?_
  rintro i hi
  by_cases hlt : i < s.length
  · obtain ⟨b, hb⟩ := get_lt hlt
    have hd : decide ((i : Int) < (s.length : Int)) = true := decide_eq_true (by omega)
    have h0 : (0 : Int) ≤ (i : Int) := by omega
    have hbl : (b.toNat : Int) < 256 := by have := b.toNat_lt; omega
    have hck := ck_bd (s.take i)
    have hstep : ck (s.take (i + 1)) = (41 * ck (s.take i) + b.toNat + 1) % 999979 := by
      have hi := lt_of_get hb
      rw [List.take_succ_eq_append_getElem hi]
      have : s[i] = b := by rw [List.getElem?_eq_getElem hi] at hb; injection hb
      unfold ck
      rw [List.foldl_append, this]; rfl
    have htm : (41 * ck (s.take i) + b.toNat + 1).tmod 999979 = ck (s.take (i + 1)) := by rw [hstep, Int.tmod_eq_emod_of_nonneg (by omega)]
    have h99 : (999979 : Int) ≠ 0 := by decide
    repeat' (first
        | (simp only [hd, h0, hb, Int.toNat_natCast, onC_true, htm, h99, ne_eq, not_false_eq_true, ↓wA, ↓wC, wB, frzBE, frzBS, Nat.reduceEqDiff, Nat.reduceAdd, Nat.reduceSub, reduceIte, reduceCtorEq, Nat.reduceBEq, Nat.reduceLT, decide_true])
        | (refine onC_i (by decide) ?_)
        | (refine onI_bare (by simp only [InR]; omega) ?_)
        | (refine execG_split (fun h => ?_) (fun h => ?_) <;> simp only [h])
        | (refine execC_split (fun h => ?_) (fun h => ?_) <;> (try simp only [h]))
        | (refine onPick_split (fun h => ?_) (fun h => ?_) <;> (try simp only [h])))
    all_goals exact ⟨i + 1, weak_of [] rfl ⟨⟨rfl, rfl⟩, ⟨rfl, rfl⟩, ⟨rfl, rfl⟩, trivial⟩, by omega, by omega⟩
  · have hd : decide ((i : Int) < (s.length : Int)) = false := decide_eq_false (by omega)
    simp only [hd, ↓wA, ↓wC, wB, frzBE, frzBS, Nat.reduceEqDiff, Nat.reduceAdd, Nat.reduceSub, reduceIte, reduceCtorEq, Nat.reduceBEq, Nat.reduceLT, decide_true]
    rw [List.take_of_length_le (by omega)]
theorem ck_InR (s : List UInt8) : InR .i64 (ck s) := by
  have := ck_bd s
  simp only [InR]; omega
theorem sealL_eq (s : List UInt8) : s ++ [35] ++ Lib.itoa (ck s) = sealL s := by simp [sealL]
theorem l1Seal_fn (s : List UInt8) (hl : s.length ≤ 4000) : Fn prog 222 [.str s] (fun rs => rs = [.str (sealL s)]) := by
  have hm : s.length ≤ maxLen := by rw [maxLen_eq]; omega
  have hi := itoa_le (ck s) (ck_InR s)
  refine Fn_of' (fn := f222) (by exact func222) c222 r222 (n := 9) (by rfl) (rv := [.tmp 2]) (by rfl) (by simp) ?_
  unfold m222
  repeat' (first
      | (simp only [↓wA, ↓wC, wB, frzBE, frzBS, Nat.reduceEqDiff, Nat.reduceAdd, Nat.reduceSub, reduceIte, reduceCtorEq, Nat.reduceBEq, Nat.reduceLT, decide_true])
      | (refine call_det (l1Sum_fn s hm) rfl rfl ?_)
      | (refine callP_det (l1Sum_fn s hm) rfl rfl ?_)
      | (refine call_det (l1Num_fn (ck s) (ck_bd s).1 (ck_InR s)) rfl rfl ?_)
      | (refine callP_det (l1Num_fn (ck s) (ck_bd s).1 (ck_InR s)) rfl rfl ?_)
      | (refine onC_i (by (try simp only [List.length_append, List.length_cons, List.length_nil]); omega) ?_)
      | (refine execG_split (fun h => ?_) (fun h => ?_) <;> simp only [h])
      | (refine execC_split (fun h => ?_) (fun h => ?_) <;> (try simp only [h]))
      | (refine onPick_split (fun h => ?_) (fun h => ?_) <;> (try simp only [h])))
  all_goals simp [sealL]
theorem appendChecksum_fn (s : List UInt8) (hl : s.length ≤ 3000) (hs : (35 : UInt8) ∉ s) : Fn prog 195 [.str s] (fun rs => rs = [.str (sealL s), .bool true]) := by
  have hm : s.length ≤ maxLen := by rw [maxLen_eq]; omega
  have hi := itoa_le (ck s) (ck_InR s)
  have hd : decide ((s.length : Int) > 4000) = false := decide_eq_false (by omega)
  have hd' : decide ((4000 : Int) < (s.length : Int)) = false := decide_eq_false (by omega)
  have hc : s.contains 35 = false := by
    cases h : s.contains 35 with
    | false => rfl
    | true => exact absurd (List.contains_iff_mem.1 h) hs
  have hl2 : (sealL s).length ≤ 4000 := by
    simp only [sealL, List.length_append, List.length_cons]; omega
  have hd2 : decide (((sealL s).length : Int) > 4000) = false := decide_eq_false (by omega)
  have hd2' : decide ((4000 : Int) < ((sealL s).length : Int)) = false := decide_eq_false (by omega)
  have hd3 : decide ((4000 : Int) < ((s.length + ((Lib.itoa (ck s)).length + 1) : Nat) : Int)) = false := decide_eq_false (by omega)
  refine Fn_of' (fn := f195) (by exact func195) c195 r195 (n := 22) (by rfl) (rv := [.tmp 2, .tmp 3]) (by rfl) (by simp) ?_
  unfold m195
  repeat' (first
      | (simp only [hd, hd', hc, sealL_eq, hd2, hd2', hd3, ↓wA, ↓wC, wB, frzBE, frzBS, Nat.reduceEqDiff, Nat.reduceAdd, Nat.reduceSub, reduceIte, reduceCtorEq, Nat.reduceBEq, Nat.reduceLT, decide_true])
      | (refine call_det (contains_fn s 35) rfl rfl ?_)
      | (refine callP_det (contains_fn s 35) rfl rfl ?_)
      | (refine call_det (checksum_fn s hm) rfl rfl ?_)
      | (refine callP_det (checksum_fn s hm) rfl rfl ?_)
      | (refine call_det (decimal_fn (ck s) (ck_InR s)) rfl rfl ?_)
      | (refine callP_det (decimal_fn (ck s) (ck_InR s)) rfl rfl ?_)
      | (refine onC_i (by (try simp only [List.length_append, List.length_cons, List.length_nil]); omega) ?_)
      | (refine execG_split (fun h => ?_) (fun h => ?_) <;> simp only [h])
      | (refine execC_split (fun h => ?_) (fun h => ?_) <;> (try simp only [h]))
      | (refine onPick_split (fun h => ?_) (fun h => ?_) <;> (try simp only [h])))
  all_goals first | rfl | (simp [sealL])
theorem body_eq (k : Int) (c r : List UInt8) : Lib.itoa k ++ [32] ++ c ++ [64] ++ r = body k c r := by simp [body]
theorem body_len {k : Int} {c r : List UInt8} (hk : InR .i64 k) (h : recOK c r = true) : (body k c r).length ≤ 400 := by
  have := itoa_le k hk
  obtain ⟨h1, h2, h3, _⟩ := rec_parts h
  simp only [body, List.length_append, List.length_cons]; omega
theorem line_len {k : Int} {c r : List UInt8} (hk : InR .i64 k) (h : recOK c r = true) : (line k c r).length ≤ 430 := by
  have h1 := body_len hk h
  have := itoa_le (ck (body k c r)) (ck_InR _)
  simp only [line, sealL, List.length_append, List.length_cons]; omega
theorem l27Line_fn (k : Int) (c r : List UInt8) (h0 : 0 ≤ k) (hk : InR .i64 k) (h : recOK c r = true) : Fn prog 193 [.int .i64 k, recD c r] (fun rs => rs = [.str (line k c r ++ [10])]) := by
  have hi := itoa_le k hk
  obtain ⟨h1, h2, h3, _⟩ := rec_parts h
  have hb := body_len hk h
  have hl := line_len hk h
  unfold line at hl
  refine Fn_of' (fn := f193) (by exact func193) c193 r193 (n := 17) (by rfl) (rv := [.tmp 4]) (by rfl) (by simp) ?_
  unfold m193
  simp only [recD]
  repeat' (first
      | (simp only [body_eq, ↓wA, ↓wC, wB, frzBE, frzBS, Nat.reduceEqDiff, Nat.reduceAdd, Nat.reduceSub, reduceIte, reduceCtorEq, Nat.reduceBEq, Nat.reduceLT, decide_true])
      | (refine call_det (l1Num_fn k h0 hk) rfl rfl ?_)
      | (refine callP_det (l1Num_fn k h0 hk) rfl rfl ?_)
      | (refine call_det (l1Seal_fn (body k c r) (by omega)) rfl rfl ?_)
      | (refine callP_det (l1Seal_fn (body k c r) (by omega)) rfl rfl ?_)
      | (refine onC_i (by (try simp only [List.length_append, List.length_cons, List.length_nil]); omega) ?_)
      | (refine execG_split (fun h => ?_) (fun h => ?_) <;> simp only [h])
      | (refine execC_split (fun h => ?_) (fun h => ?_) <;> (try simp only [h]))
      | (refine onPick_split (fun h => ?_) (fun h => ?_) <;> (try simp only [h])))
  all_goals rfl
/-- what encodes a record. -/
def encR (k : Int) (c r : List UInt8) : List D := if within k 0 59 = true ∧ recOK c r = true then [.str (line k c r ++ [10]), .bool true] else [.str [], .bool false]
theorem within_InR {k : Int} (h : within k 0 59 = true) : 0 ≤ k ∧ InR .i64 k := by
  simp only [within, Bool.and_eq_true, decide_eq_true_eq] at h
  simp only [InR]; omega
theorem encode_fn (k : Int) (c r : List UInt8) (hc : c.length ≤ maxLen) (hr : r.length ≤ maxLen) : Fn prog 172 [.int .i64 k, recD c r] (fun rs => rs = encR k c r) := by
  have hg := isValidRecord_fn c r hc hr
  refine Fn_of' (fn := f172) (by exact func172) c172 r172 (n := 33) (by rfl) (rv := [.tmp 4, .tmp 5]) (by rfl) (by simp) ?_
  unfold m172
  cases h1 : within k 0 59 with
  | false =>
    have hw := within_fn k 0 59
    rw [h1] at hw
    simp only [recD] at hg ⊢
    repeat' (first
        | (simp only [↓wA, ↓wC, wB, frzBE, frzBS, Nat.reduceEqDiff, Nat.reduceAdd, Nat.reduceSub, reduceIte, reduceCtorEq, Nat.reduceBEq, Nat.reduceLT, decide_true])
        | (refine call_det hw rfl rfl ?_)
        | (refine call_det hg rfl rfl ?_)
        | (refine execG_split (fun h => ?_) (fun h => ?_) <;> simp only [h])
        | (refine execC_split (fun h => ?_) (fun h => ?_) <;> (try simp only [h]))
        | (refine onPick_split (fun h => ?_) (fun h => ?_) <;> (try simp only [h])))
    all_goals simp [encR, h1]
  | true =>
    have hw := within_fn k 0 59
    rw [h1] at hw
    cases h2 : recOK c r with
    | false =>
      rw [h2] at hg
      simp only [recD] at hg ⊢
      repeat' (first
          | (simp only [↓wA, ↓wC, wB, frzBE, frzBS, Nat.reduceEqDiff, Nat.reduceAdd, Nat.reduceSub, reduceIte, reduceCtorEq, Nat.reduceBEq, Nat.reduceLT, decide_true])
          | (refine call_det hw rfl rfl ?_)
          | (refine call_det hg rfl rfl ?_)
          | (refine execG_split (fun h => ?_) (fun h => ?_) <;> simp only [h])
          | (refine execC_split (fun h => ?_) (fun h => ?_) <;> (try simp only [h]))
          | (refine onPick_split (fun h => ?_) (fun h => ?_) <;> (try simp only [h])))
      all_goals simp [encR, h1, h2]
    | true =>
      rw [h2] at hg
      obtain ⟨h0, hk⟩ := within_InR h1
      have hi := itoa_le k hk
      obtain ⟨h3, h4, h5, _⟩ := rec_parts h2
      have hb := body_len hk h2
      have hl := line_len hk h2
      unfold line at hl
      have ha := appendChecksum_fn (body k c r) (by omega) (body_no35 h2)
      simp only [recD] at hg ⊢
      repeat' (first
          | (simp only [body_eq, ↓wA, ↓wC, wB, frzBE, frzBS, Nat.reduceEqDiff, Nat.reduceAdd, Nat.reduceSub, reduceIte, reduceCtorEq, Nat.reduceBEq, Nat.reduceLT, decide_true])
          | (refine call_det hw rfl rfl ?_)
          | (refine call_det hg rfl rfl ?_)
          | (refine callP_det (decimal_fn k hk) rfl rfl ?_)
          | (refine callP_det ha rfl rfl ?_)
          | (refine onC_i (by (try simp only [List.length_append, List.length_cons, List.length_nil]); omega) ?_)
          | (refine execG_split (fun h => ?_) (fun h => ?_) <;> simp only [h])
          | (refine execC_split (fun h => ?_) (fun h => ?_) <;> (try simp only [h]))
          | (refine onPick_split (fun h => ?_) (fun h => ?_) <;> (try simp only [h])))
      all_goals simp [encR, h1, h2, line]
end Go.Pe.Tryz

set_option maxRecDepth 100000
set_option maxHeartbeats 4000000
set_option linter.all false
namespace Go.Pe.Tryz
theorem index_one (x : UInt8) : ∀ s : List UInt8, (x ∈ s → Lib.index s [x] = ((before x s).length : Int)) ∧ (x ∉ s → Lib.index s [x] = -1)
  | [] => ⟨fun h => (by cases h), fun _ => rfl⟩
  | b :: s => by
    obtain ⟨ih1, ih2⟩ := index_one x s
    by_cases e : b = x
    · subst e
      refine ⟨fun _ => ?_, fun h => absurd (List.mem_cons_self ..) h⟩
      have hp : ([b] : List UInt8).isPrefixOf (b :: s) = true := by simp [List.isPrefixOf]
      rw [Lib.index, if_pos hp]
      simp [before]
    · have hp : ([x] : List UInt8).isPrefixOf (b :: s) = false := by
        simp only [List.isPrefixOf, Bool.and_eq_false_iff, beq_eq_false_iff_ne]
        exact .inl fun h => e h.symm
      have hb : (b != x) = true := by simpa [bne_iff_ne] using e
      refine ⟨fun h => ?_, fun h => ?_⟩
      · have hm : x ∈ s := by
          rcases List.mem_cons.1 h with h | h
          · exact absurd h.symm e
          · exact h
        have h1 : ((Lib.index s [x]) == -1) = false := by rw [ih1 hm, beq_eq_false_iff_ne]; omega
        rw [Lib.index, hp, h1, ih1 hm]
        simp [before, List.takeWhile_cons, hb]
      · have hm : x ∉ s := fun hm => h (List.mem_cons_of_mem _ hm)
        have h1 : ((Lib.index s [x]) == -1) = true := by rw [ih2 hm]; rfl
        rw [Lib.index, hp, h1]
        rfl
theorem cut_one (x : UInt8) (s : List UInt8) : Lib.cut s [x] = (before x s, after x s, s.contains x) := by
  obtain ⟨h1, h2⟩ := index_one x s
  unfold Lib.cut
  by_cases h : x ∈ s
  · rw [h1 h, if_pos (by omega)]
    refine Prod.ext ?_ (Prod.ext ?_ ?_)
    · show s.take ((before x s).length : Int).toNat = before x s
      rw [Int.toNat_natCast, ← before_take]
    · show s.drop (((before x s).length : Int).toNat + [x].length) = after x s
      rw [Int.toNat_natCast, List.length_singleton, ← after_drop h]
    · exact (List.contains_iff_mem.2 h).symm
  · rw [h2 h, if_neg (by omega)]
    refine Prod.ext (before_none h).symm (Prod.ext (after_none h).symm ?_)
    cases hc : s.contains x with
    | false => rfl
    | true => exact absurd (List.contains_iff_mem.1 hc) h
/-- the parts of a text between bytes, so far: what is done, where the last one begins. -/
def spl (x : UInt8) (s : List UInt8) : Nat → List (List UInt8) × Nat
  | 0 => ([], 0)
  | i + 1 => match s[i]? with
    | some c => if c = x then ((spl x s i).1 ++ [(s.take i).drop (spl x s i).2], i + 1) else spl x s i
    | none => spl x s i
def parts (x : UInt8) (s : List UInt8) : List (List UInt8) := (spl x s s.length).1 ++ [s.drop (spl x s s.length).2]
theorem spl_up {x c : UInt8} {s : List UInt8} {i : Nat} (h : s[i]? = some c) : spl x s (i + 1) = if c = x then ((spl x s i).1 ++ [(s.take i).drop (spl x s i).2], i + 1) else spl x s i := by
  simp only [spl, h]
theorem spl_bd (x : UInt8) (s : List UInt8) : ∀ i, (spl x s i).2 ≤ i ∧ (spl x s i).1.length ≤ i
  | 0 => by simp [spl]
  | i + 1 => by
    have ih := spl_bd x s i
    simp only [spl]
    split
    · split
      · simp; omega
      · omega
    · omega
theorem spl_inv (x : UInt8) (s : List UInt8) : ∀ i, i ≤ s.length → ((spl x s i).1 = [] ∧ (spl x s i).2 = 0 ∧ x ∉ s.take i) ∨ ((spl x s i).1[0]? = some (before x s) ∧ x ∈ s)
  | 0, _ => .inl ⟨rfl, rfl, by simp⟩
  | i + 1, h => by
    have hi : i < s.length := h
    have hc : s[i]? = some s[i] := List.getElem?_eq_getElem hi
    rw [spl_up hc]
    have hsp : s = s.take i ++ s[i] :: s.drop (i + 1) := by
      rw [← List.drop_eq_getElem_cons hi, List.take_append_drop]
    have htk : s.take (i + 1) = s.take i ++ [s[i]] := by rw [List.take_succ_eq_append_getElem hi]
    rcases spl_inv x s i (by omega) with ⟨h1, h2, h3⟩ | ⟨h1, h2⟩
    · split
      · rename_i e
        right
        refine ⟨?_, e ▸ List.getElem_mem hi⟩
        rw [h1, h2]
        have : before x s = s.take i := by
          have h4 := before_app (t := s.drop (i + 1)) h3
          rw [← e, ← hsp] at h4
          rw [← e]; exact h4
        simp [this]
      · rename_i e
        left
        refine ⟨h1, h2, ?_⟩
        rw [htk, List.mem_append, List.mem_singleton]
        rintro (h | h)
        · exact h3 h
        · exact e h.symm
    · right
      split
      · refine ⟨?_, h2⟩
        rw [List.getElem?_append_left (lt_of_get h1)]; exact h1
      · exact ⟨h1, h2⟩
theorem parts_head (x : UInt8) (s : List UInt8) : (parts x s)[0]? = some (before x s) := by
  unfold parts
  rcases spl_inv x s s.length (Nat.le_refl _) with ⟨h1, h2, h3⟩ | ⟨h1, h2⟩
  · rw [List.take_length] at h3
    rw [h1, h2, before_none h3]; rfl
  · rw [List.getElem?_append_left (lt_of_get h1)]; exact h1
theorem parts_two (x : UInt8) (s : List UInt8) : (parts x s).length < 2 ↔ x ∉ s := by
  unfold parts
  rcases spl_inv x s s.length (Nat.le_refl _) with ⟨h1, h2, h3⟩ | ⟨h1, h2⟩
  · rw [List.take_length] at h3
    rw [h1]
    simp [h3]
  · have := lt_of_get h1
    simp only [List.length_append, List.length_singleton]
    constructor
    · intro h; omega
    · intro h; exact absurd h2 h
/-- what the line of a record is read as, step by step. -/
theorem rd_parts {k : Int} {c r : List UInt8} (h : recOK c r = true) : sealL (before 35 (line k c r)) = line k c r ∧ before 35 (line k c r) = body k c r ∧ after 32 (body k c r) = c ++ 64 :: r ∧ before 64 (c ++ 64 :: r) = c ∧ after 64 (c ++ 64 :: r) = r := by
  have h64 := (rec_parts h).2.2.2.2.2
  have h32 : (32 : UInt8) ∉ Lib.itoa k := itoa_not k 32 (by decide) (by decide)
  refine ⟨by rw [line_before h]; rfl, line_before h, ?_, before_app h64, after_app h64⟩
  unfold body
  exact after_app h32
theorem rd_none {k : Int} {L : List UInt8} (h : rd k L = none) (c r : List UInt8) (hok : recOK c r = true) : ¬ line k c r = L := fun e => by
  rw [rd_iff.2 ⟨hok, e⟩] at h
  cases h
theorem opens_step {n : Nat} {k : Int} {s : List UInt8} {e : List UInt8 × List UInt8} (h10 : (10 : UInt8) ∈ s) (h : rd k (before 10 s) = some e) : opens (n + 1) k s = (e :: (opens n (k + 1) (after 10 s)).1, (before 10 s).length + 1 + (opens n (k + 1) (after 10 s)).2) := by
  simp only [opens, h10, if_true, h]
theorem opens_no10 {n : Nat} {k : Int} {s : List UInt8} (h : (10 : UInt8) ∉ s) : opens n k s = ([], 0) := by
  cases n with
  | zero => rfl
  | succ n => simp only [opens, h, if_false]
theorem opens_bad {n : Nat} {k : Int} {s : List UInt8} (h : rd k (before 10 s) = none) : opens n k s = ([], 0) := by
  cases n with
  | zero => rfl
  | succ n => simp only [opens, h]; split <;> rfl
/-- the records of a log that is read to its end are not long. -/
theorem opens_short {B : Nat} (hB : ∀ (k : Int) (c r : List UInt8), 0 ≤ k → k ≤ 60 → recOK c r = true → (line k c r).length ≤ B) : ∀ (n : Nat) (k : Int) (s : List UInt8), 0 ≤ k → k + n ≤ 60 → (opens n k s).2 ≤ (B + 1) * n
  | 0, _, _, _, _ => by simp [opens]
  | n + 1, k, s, h0, h1 => by
    by_cases h10 : (10 : UInt8) ∈ s
    · cases hr : rd k (before 10 s) with
      | none => rw [opens_bad hr]; simp
      | some d =>
        rw [opens_step h10 hr]
        obtain ⟨hok, hl⟩ := rd_iff.1 hr
        have := hB k d.1 d.2 h0 (by omega) hok
        rw [hl] at this
        have ih := opens_short hB n (k + 1) (after 10 s) (by omega) (by omega)
        simp only [Nat.mul_succ]
        omega
    · rw [opens_no10 h10]; simp
/-- does a text end with the sum of what stands ahead of it? -/
def vfy (s : List UInt8) : Bool := decide ((before 35 s).length ≤ 4000 ∧ (sealL (before 35 s)).length ≤ 4000 ∧ sealL (before 35 s) = s)
/-- the record that the program takes a line for. -/
def nxtT (L : List UInt8) : List UInt8 := after 32 (if vfy L = true then before 35 L else [])
def nxt (L : List UInt8) : List UInt8 × List UInt8 := (before 64 (nxtT L), after 64 (nxtT L))
theorem after_le (x : UInt8) (s : List UInt8) : (after x s).length ≤ s.length := by
  unfold after
  have := (List.dropWhile_sublist (p := (· != x)) (l := s)).length_le
  simp only [List.length_drop]; omega
theorem nxt_le (L : List UInt8) : (nxtT L).length ≤ L.length ∧ (nxt L).1.length ≤ L.length ∧ (nxt L).2.length ≤ L.length := by
  have h1 : (nxtT L).length ≤ L.length := by
    unfold nxtT
    split
    · exact Nat.le_trans (after_le 32 _) (before_le 35 L)
    · simp [after]
  exact ⟨h1, Nat.le_trans (before_le 64 _) h1, Nat.le_trans (after_le 64 _) h1⟩
theorem nxt_rd {k : Int} {L : List UInt8} (hb : ∀ c r : List UInt8, recOK c r = true → (body k c r).length ≤ 4000 ∧ (line k c r).length ≤ 4000) :
    rd k L = if recOK (nxt L).1 (nxt L).2 = true ∧ line k (nxt L).1 (nxt L).2 = L then some (nxt L) else none := by
  cases h : rd k L with
  | none =>
    rw [if_neg]
    rintro ⟨h1, h2⟩
    exact rd_none h _ _ h1 h2
  | some e =>
    obtain ⟨c, r⟩ := e
    obtain ⟨h1, h2⟩ := rd_iff.1 h
    obtain ⟨p1, p2, p3, p4, p5⟩ := rd_parts (k := k) h1
    rw [h2] at p1 p2
    obtain ⟨b1, b2⟩ := hb c r h1
    have hv : vfy L = true := decide_eq_true ⟨by rw [p2]; exact b1, by rw [p1, ← h2]; exact b2, p1⟩
    have hn : nxt L = (c, r) := by
      unfold nxt nxtT
      rw [if_pos hv, p2, p3, p4, p5]
    rw [hn, if_pos ⟨h1, h2⟩]
/-- what the reference reads a line as. -/
def rdT (k : Int) (L : List UInt8) : List UInt8 := (before 35 L).drop ((Lib.itoa k).length + 1)
def rdv (k : Int) (L : List UInt8) : (List UInt8 × List UInt8) × Bool :=
  if (before 35 L).length < (Lib.itoa k).length + 1 ∨ (before 35 L).take ((Lib.itoa k).length + 1) ≠ Lib.itoa k ++ [32] then (([], []), false)
  else if (64 : UInt8) ∉ rdT k L then (([], []), false)
  else ((before 64 (rdT k L), after 64 (rdT k L)), recOK (before 64 (rdT k L)) (after 64 (rdT k L)) && decide (line k (before 64 (rdT k L)) (after 64 (rdT k L)) = L))
theorem rdv_rd (k : Int) (L : List UInt8) : rd k L = if (rdv k L).2 = true then some (rdv k L).1 else none := by
  by_cases h1 : (before 35 L).length < (Lib.itoa k).length + 1 ∨ (before 35 L).take ((Lib.itoa k).length + 1) ≠ Lib.itoa k ++ [32]
  · unfold rdv
    rw [if_pos h1]
    cases h : rd k L with
    | none => rfl
    | some e =>
      obtain ⟨c, r⟩ := e
      obtain ⟨h2, h3⟩ := rd_iff.1 h
      have hp := (rd_parts (k := k) h2).2.1
      rw [h3] at hp
      exfalso
      rw [hp] at h1
      rcases h1 with h1 | h1
      · simp [body] at h1
      · apply h1
        unfold body
        rw [List.take_append, List.take_of_length_le (by omega), show (Lib.itoa k).length + 1 - (Lib.itoa k).length = 1 by omega]; rfl
  · by_cases h4 : (64 : UInt8) ∉ rdT k L
    · unfold rdv
      rw [if_neg h1, if_pos h4]
      cases h : rd k L with
      | none => rfl
      | some e =>
        obtain ⟨c, r⟩ := e
        obtain ⟨h2, h3⟩ := rd_iff.1 h
        have hp := (rd_parts (k := k) h2).2.1
        rw [h3] at hp
        exfalso
        apply h4
        unfold rdT
        rw [hp, body_rest]
        simp
    · unfold rdv
      rw [if_neg h1, if_neg h4]
      unfold rd
      show (if recOK (before 64 (rdT k L)) (after 64 (rdT k L)) = true ∧ line k (before 64 (rdT k L)) (after 64 (rdT k L)) = L then _ else _) = _
      by_cases h5 : recOK (before 64 (rdT k L)) (after 64 (rdT k L)) = true
      · by_cases h6 : line k (before 64 (rdT k L)) (after 64 (rdT k L)) = L
        · rw [if_pos ⟨h5, h6⟩]; simp only [h5, h6, decide_true, Bool.and_true, if_true]; rfl
        · rw [if_neg (fun h => h6 h.2)]; simp [h6]
      · rw [if_neg (fun h => h5 h.1)]; simp [h5]
/-- a loop that reads records: so far. -/
structure Reads (s : List UInt8) (p : List (List UInt8 × List UInt8) × Nat) : Prop where
  len : p.1.length ≤ 60
  pos : p.2 ≤ s.length
  all : opens 60 0 s = (p.1 ++ (opens (60 - p.1.length) p.1.length (s.drop p.2)).1, p.2 + (opens (60 - p.1.length) p.1.length (s.drop p.2)).2)
theorem Reads.start (s : List UInt8) : Reads s ([], 0) := ⟨by simp, by simp, by simp⟩
theorem Reads.stop10 {s p} (h : Reads s p) (h10 : (10 : UInt8) ∉ s.drop p.2) : opens 60 0 s = p := by
  rw [h.all, opens_no10 h10]; simp
theorem Reads.stopRd {s p} (h : Reads s p) (hr : rd (p.1.length : Int) (before 10 (s.drop p.2)) = none) : opens 60 0 s = p := by
  rw [h.all, opens_bad hr]; simp
theorem Reads.stopLen {s p} (h : Reads s p) (hr : ¬ p.1.length < 60) : opens 60 0 s = p := by
  rw [h.all, show 60 - p.1.length = 0 by have := h.len; omega]; simp [opens]
theorem Reads.stopEnd {s p} (h : Reads s p) (hr : ¬ p.2 < s.length) : opens 60 0 s = p := by
  refine h.stop10 ?_
  rw [List.drop_of_length_le (by omega)]; simp
theorem Reads.next {s p e} (h : Reads s p) (hl : p.1.length < 60) (h10 : (10 : UInt8) ∈ s.drop p.2) (hr : rd (p.1.length : Int) (before 10 (s.drop p.2)) = some e) :
    Reads s (p.1 ++ [e], p.2 + ((before 10 (s.drop p.2)).length + 1)) := by
  have hal := after_len h10
  rw [List.length_drop] at hal
  have hp := h.pos
  refine ⟨by simp; omega, by show p.2 + _ ≤ _; omega, ?_⟩
  have hn : 60 - p.1.length = (60 - (p.1.length + 1)) + 1 := by omega
  have hd : s.drop (p.2 + ((before 10 (s.drop p.2)).length + 1)) = after 10 (s.drop p.2) := by rw [after_drop h10, List.drop_drop]
  rw [h.all, hn, opens_step h10 hr]
  simp only [List.length_append, List.length_singleton, hd]
  refine Prod.ext ?_ ?_
  · simp
  · simp; omega
end Go.Pe.Tryz

set_option maxRecDepth 100000
set_option maxHeartbeats 4000000
set_option linter.all false
namespace Go.Pe.Tryz
open Go.Proofs.Tryz Go.Sort
theorem cut_fn (s : List UInt8) (x : UInt8) (hl : s.length ≤ 4000000000) : Fn prog 170 [.str s, .str [x]] (fun rs => rs = [.str (before x s), .str (after x s), .bool (s.contains x)]) :=
  Fn_lib rfl rfl fun w hF => by
    obtain ⟨m, hm⟩ := maxOf hF
    refine (Go.Proofs.Tryz.strings_Cut ⟨s.toArray⟩ ⟨#[x]⟩ m w (by show s.toArray.size < _; simp; omega) hm).mono ?_
    rintro e w' ⟨rfl, n, rfl⟩
    refine ⟨?_, Ext.drewN n⟩
    have hc : Lib.cut s [x] = (before x s, after x s, s.contains x) := cut_one x s
    simp only [hc]
    rfl
theorem dl_str (L : List (List UInt8)) (s : List UInt8) : (dl D.str L).app (D.cons (.str s) .nil) = dl D.str (L ++ [s]) := app_one (f := D.str) L s
theorem l1Split_fn (s : List UInt8) (x : UInt8) (hl : s.length ≤ 1000000000) : Fn prog 168 [.str s, .int .u8 (x.toNat : Int)] (fun rs => rs = [.sl true 1 (dl D.str (parts x s))]) := by
  refine Fn_of' (fn := f168) (by exact func168) c168 r168 (n := 35) (by rfl) (rv := [.tmp 4]) (by rfl) (by simp) ?_
  unfold m168
  repeat' (first
      | (simp only [onC_true, ↓wA, ↓wC, wB, frzBE, frzBS, Nat.reduceEqDiff, Nat.reduceAdd, Nat.reduceSub, reduceIte, reduceCtorEq, Nat.reduceBEq, Nat.reduceLT, decide_true])
      | (refine execG_split (fun h => ?_) (fun h => ?_) <;> simp only [h])
      | (refine execC_split (fun h => ?_) (fun h => ?_) <;> (try simp only [h]))
      | (refine onPick_split (fun h => ?_) (fun h => ?_) <;> (try simp only [h])))
  refine exec_range s.length (fun i : Nat => ⟨[(0, .d (.str s)), (1, .d (.int .u8 (x.toNat : Int))), (5, .own 0), (6, .d (.int .i64 (spl x s i).2)), (7, .d (.int .i64 i))], [.val (.sl true 1 (dl D.str (spl x s i).1))]⟩) (fun _ => True) (weak_of _ rfl ⟨⟨rfl, rfl⟩, ⟨rfl, rfl⟩, ⟨rfl, rfl⟩, ⟨rfl, rfl⟩, ⟨rfl, rfl⟩, trivial⟩) trivial ?_ ?_
  · intro i hi _ hd h0
    obtain ⟨b, hb⟩ := get_lt hi
    have hbc : decide ((b.toNat : Int) = (x.toNat : Int)) = decide (b = x) := by
      apply decide_eq_decide.2
      constructor
      · intro h; exact UInt8.toNat_inj.1 (by omega)
      · intro h; rw [h]
    have hbd := spl_bd x s i
    have hup := spl_up (x := x) hb
    by_cases hc : b = x
    · rw [if_pos hc] at hup
      repeat' (first
          | (simp only [hd, h0, hb, Int.toNat_natCast, onC_true, hbc, hc, ↓wA, ↓wC, wB, frzBE, frzBS, Nat.reduceEqDiff, Nat.reduceAdd, Nat.reduceSub, reduceIte, reduceCtorEq, Nat.reduceBEq, Nat.reduceLT, decide_true])
          | (refine onC_i (fun h => by cases h) ?_)
          | (with_reducible refine onC_i ?_ ?_; focus ((try simp only [dl_len]); omega))
          | (refine onI_bare (by simp only [InR]; omega) ?_)
          | (refine execG_split (fun h => ?_) (fun h => ?_) <;> simp only [h])
          | (refine execC_split (fun h => ?_) (fun h => ?_) <;> (try simp only [h]))
          | (refine onPick_split (fun h => ?_) (fun h => ?_) <;> (try simp only [h])))
      all_goals (refine ⟨i + 1, ?_, by omega, by omega⟩; rw [hup]; (try simp only [dl_str]); exact (weak_of _ rfl ⟨⟨rfl, rfl⟩, ⟨rfl, rfl⟩, ⟨rfl, rfl⟩, ⟨rfl, rfl⟩, ⟨rfl, rfl⟩, trivial⟩))
    · rw [if_neg hc] at hup
      repeat' (first
          | (simp only [hd, h0, hb, Int.toNat_natCast, onC_true, hbc, hc, ↓wA, ↓wC, wB, frzBE, frzBS, Nat.reduceEqDiff, Nat.reduceAdd, Nat.reduceSub, reduceIte, reduceCtorEq, Nat.reduceBEq, Nat.reduceLT, decide_true])
          | (refine onC_i (fun h => by cases h) ?_)
          | (with_reducible refine onC_i ?_ ?_; focus ((try simp only [dl_len]); omega))
          | (refine onI_bare (by simp only [InR]; omega) ?_)
          | (refine execG_split (fun h => ?_) (fun h => ?_) <;> simp only [h])
          | (refine execC_split (fun h => ?_) (fun h => ?_) <;> (try simp only [h]))
          | (refine onPick_split (fun h => ?_) (fun h => ?_) <;> (try simp only [h])))
      all_goals (refine ⟨i + 1, ?_, by omega, by omega⟩; rw [hup]; (try simp only [dl_str]); exact (weak_of _ rfl ⟨⟨rfl, rfl⟩, ⟨rfl, rfl⟩, ⟨rfl, rfl⟩, ⟨rfl, rfl⟩, ⟨rfl, rfl⟩, trivial⟩))
  · intro _ hd
    have hbd := spl_bd x s s.length
    repeat' (first
        | (simp only [hd, onC_true, Int.toNat_natCast, ↓wA, ↓wC, wB, frzBE, frzBS, Nat.reduceEqDiff, Nat.reduceAdd, Nat.reduceSub, reduceIte, reduceCtorEq, Nat.reduceBEq, Nat.reduceLT, decide_true])
        | (refine onC_i (fun h => by cases h) ?_)
        | (with_reducible refine onC_i ?_ ?_; focus ((try simp only [dl_len]); omega))
        | (refine execG_split (fun h => ?_) (fun h => ?_) <;> simp only [h])
        | (refine execC_split (fun h => ?_) (fun h => ?_) <;> (try simp only [h]))
        | (refine onPick_split (fun h => ?_) (fun h => ?_) <;> (try simp only [h])))
    all_goals (simp only [dl_str]; rfl)
theorem seal_len (s : List UInt8) : (sealL s).length = s.length + 1 + (Lib.itoa (ck s)).length := by simp [sealL]; omega
theorem appendFull_fn (s : List UInt8) (hl : s.length ≤ 1000000000) (hs : (35 : UInt8) ∉ s) : Fn prog 195 [.str s] (fun rs => rs = if s.length ≤ 4000 ∧ (sealL s).length ≤ 4000 then [.str (sealL s), .bool true] else [.str [], .bool false]) := by
  have hm : s.length ≤ maxLen := by rw [maxLen_eq]; omega
  have hi := itoa_le (ck s) (ck_InR s)
  have hsl := seal_len s
  have hc : s.contains 35 = false := by
    cases h : s.contains 35 with
    | false => rfl
    | true => exact absurd (List.contains_iff_mem.1 h) hs
  by_cases h1 : s.length ≤ 4000
  · have hd' : decide ((4000 : Int) < (s.length : Int)) = false := decide_eq_false (by omega)
    by_cases h2 : (sealL s).length ≤ 4000
    · rw [if_pos ⟨h1, h2⟩]
      have hd2' : decide ((4000 : Int) < ((sealL s).length : Int)) = false := decide_eq_false (by omega)
      have hd3 : decide ((4000 : Int) < ((s.length + ((Lib.itoa (ck s)).length + 1) : Nat) : Int)) = false := decide_eq_false (by omega)
      refine Fn_of' (fn := f195) (by exact func195) c195 r195 (n := 22) (by rfl) (rv := [.tmp 2, .tmp 3]) (by rfl) (by simp) ?_
      unfold m195
      repeat' (first
          | (simp only [hd', hc, sealL_eq, hd2', hd3, ↓wA, ↓wC, wB, frzBE, frzBS, Nat.reduceEqDiff, Nat.reduceAdd, Nat.reduceSub, reduceIte, reduceCtorEq, Nat.reduceBEq, Nat.reduceLT, decide_true])
          | (refine call_det (contains_fn s 35) rfl rfl ?_)
          | (refine callP_det (contains_fn s 35) rfl rfl ?_)
          | (refine call_det (checksum_fn s hm) rfl rfl ?_)
          | (refine callP_det (checksum_fn s hm) rfl rfl ?_)
          | (refine call_det (decimal_fn (ck s) (ck_InR s)) rfl rfl ?_)
          | (refine callP_det (decimal_fn (ck s) (ck_InR s)) rfl rfl ?_)
          | (refine onC_i (by (try simp only [List.length_append, List.length_cons, List.length_nil]); omega) ?_)
          | (refine execG_split (fun h => ?_) (fun h => ?_) <;> simp only [h])
          | (refine execC_split (fun h => ?_) (fun h => ?_) <;> (try simp only [h]))
          | (refine onPick_split (fun h => ?_) (fun h => ?_) <;> (try simp only [h])))
      all_goals first | rfl | (simp [sealL])
    · rw [if_neg (fun h => h2 h.2)]
      have hd2' : decide ((4000 : Int) < ((sealL s).length : Int)) = true := decide_eq_true (by omega)
      have hd3 : decide ((4000 : Int) < ((s.length + ((Lib.itoa (ck s)).length + 1) : Nat) : Int)) = true := decide_eq_true (by omega)
      refine Fn_of' (fn := f195) (by exact func195) c195 r195 (n := 22) (by rfl) (rv := [.tmp 2, .tmp 3]) (by rfl) (by simp) ?_
      unfold m195
      repeat' (first
          | (simp only [hd', hc, sealL_eq, hd2', hd3, ↓wA, ↓wC, wB, frzBE, frzBS, Nat.reduceEqDiff, Nat.reduceAdd, Nat.reduceSub, reduceIte, reduceCtorEq, Nat.reduceBEq, Nat.reduceLT, decide_true])
          | (refine call_det (contains_fn s 35) rfl rfl ?_)
          | (refine callP_det (contains_fn s 35) rfl rfl ?_)
          | (refine call_det (checksum_fn s hm) rfl rfl ?_)
          | (refine callP_det (checksum_fn s hm) rfl rfl ?_)
          | (refine call_det (decimal_fn (ck s) (ck_InR s)) rfl rfl ?_)
          | (refine callP_det (decimal_fn (ck s) (ck_InR s)) rfl rfl ?_)
          | (refine onC_i (by (try simp only [List.length_append, List.length_cons, List.length_nil]); omega) ?_)
          | (refine execG_split (fun h => ?_) (fun h => ?_) <;> simp only [h])
          | (refine execC_split (fun h => ?_) (fun h => ?_) <;> (try simp only [h]))
          | (refine onPick_split (fun h => ?_) (fun h => ?_) <;> (try simp only [h])))
      all_goals first | rfl | (simp [sealL])
  · rw [if_neg (fun h => h1 h.1)]
    have hd' : decide ((4000 : Int) < (s.length : Int)) = true := decide_eq_true (by omega)
    refine Fn_of' (fn := f195) (by exact func195) c195 r195 (n := 22) (by rfl) (rv := [.tmp 2, .tmp 3]) (by rfl) (by simp) ?_
    unfold m195
    repeat' (first
        | (simp only [hd', ↓wA, ↓wC, wB, frzBE, frzBS, Nat.reduceEqDiff, Nat.reduceAdd, Nat.reduceSub, reduceIte, reduceCtorEq, Nat.reduceBEq, Nat.reduceLT, decide_true])
        | (refine execG_split (fun h => ?_) (fun h => ?_) <;> simp only [h])
        | (refine execC_split (fun h => ?_) (fun h => ?_) <;> (try simp only [h]))
        | (refine onPick_split (fun h => ?_) (fun h => ?_) <;> (try simp only [h])))
    all_goals rfl
theorem verify_fn (s : List UInt8) (hl : s.length ≤ 1000000000) : Fn prog 171 [.str s] (fun rs => rs = if vfy s = true then [.str (before 35 s), .bool true] else [.str [], .bool false]) := by
  have hb := before_le 35 s
  have hC := cut_fn s 35 (by omega)
  have hA := appendFull_fn (before 35 s) (by omega) (before_not 35 s)
  by_cases h1 : (before 35 s).length ≤ 4000 ∧ (sealL (before 35 s)).length ≤ 4000
  · rw [if_pos h1] at hA
    by_cases h2 : sealL (before 35 s) = s
    · have hv : vfy s = true := decide_eq_true ⟨h1.1, h1.2, h2⟩
      have hd : decide (sealL (before 35 s) = s) = true := decide_eq_true h2
      rw [if_pos hv]
      refine Fn_of' (fn := f171) (by exact func171) c171 r171 (n := 28) (by rfl) (rv := [.tmp 2, .tmp 3]) (by rfl) (by simp) ?_
      unfold m171
      repeat' (first
          | (simp only [hd, ↓wA, ↓wC, wB, frzBE, frzBS, Nat.reduceEqDiff, Nat.reduceAdd, Nat.reduceSub, reduceIte, reduceCtorEq, Nat.reduceBEq, Nat.reduceLT, decide_true])
          | (refine call_det (hC) rfl rfl ?_)
          | (refine callP_det (hC) rfl rfl ?_)
          | (refine call_det (hA) rfl rfl ?_)
          | (refine callP_det (hA) rfl rfl ?_)
          | (refine execG_split (fun h => ?_) (fun h => ?_) <;> simp only [h])
          | (refine execC_split (fun h => ?_) (fun h => ?_) <;> (try simp only [h]))
          | (refine onPick_split (fun h => ?_) (fun h => ?_) <;> (try simp only [h])))
      all_goals trace_state
    · have hv : ¬ vfy s = true := fun h => h2 (of_decide_eq_true h).2.2
      have hd : decide (sealL (before 35 s) = s) = false := decide_eq_false h2
      rw [if_neg hv]
      refine Fn_of' (fn := f171) (by exact func171) c171 r171 (n := 28) (by rfl) (rv := [.tmp 2, .tmp 3]) (by rfl) (by simp) ?_
      unfold m171
      repeat' (first
          | (simp only [hd, ↓wA, ↓wC, wB, frzBE, frzBS, Nat.reduceEqDiff, Nat.reduceAdd, Nat.reduceSub, reduceIte, reduceCtorEq, Nat.reduceBEq, Nat.reduceLT, decide_true])
          | (refine call_det (hC) rfl rfl ?_)
          | (refine callP_det (hC) rfl rfl ?_)
          | (refine call_det (hA) rfl rfl ?_)
          | (refine callP_det (hA) rfl rfl ?_)
          | (refine execG_split (fun h => ?_) (fun h => ?_) <;> simp only [h])
          | (refine execC_split (fun h => ?_) (fun h => ?_) <;> (try simp only [h]))
          | (refine onPick_split (fun h => ?_) (fun h => ?_) <;> (try simp only [h])))
      all_goals trace_state
  · rw [if_neg h1] at hA
    have hv : ¬ vfy s = true := fun h => h1 ⟨(of_decide_eq_true h).1, (of_decide_eq_true h).2.1⟩
    rw [if_neg hv]
    refine Fn_of' (fn := f171) (by exact func171) c171 r171 (n := 28) (by rfl) (rv := [.tmp 2, .tmp 3]) (by rfl) (by simp) ?_
    unfold m171
    repeat' (first
        | (simp only [↓wA, ↓wC, wB, frzBE, frzBS, Nat.reduceEqDiff, Nat.reduceAdd, Nat.reduceSub, reduceIte, reduceCtorEq, Nat.reduceBEq, Nat.reduceLT, decide_true])
        | (refine call_det (hC) rfl rfl ?_)
        | (refine callP_det (hC) rfl rfl ?_)
        | (refine call_det (hA) rfl rfl ?_)
        | (refine callP_det (hA) rfl rfl ?_)
        | (refine execG_split (fun h => ?_) (fun h => ?_) <;> simp only [h])
        | (refine execC_split (fun h => ?_) (fun h => ?_) <;> (try simp only [h]))
        | (refine onPick_split (fun h => ?_) (fun h => ?_) <;> (try simp only [h])))
    all_goals trace_state
end Go.Pe.Tryz

set_option maxRecDepth 100000
set_option maxHeartbeats 4000000
set_option linter.all false
namespace Go.Pe.Tryz
open Go.Proofs.Tryz Go.Sort
def recE (e : List UInt8 × List UInt8) : D := .st (.cons (.str e.1) (.cons (.str e.2) .nil))
theorem dl_rec (L : List (List UInt8 × List UInt8)) (e : List UInt8 × List UInt8) : (dl recE L).app (D.cons (.st (.cons (.str e.1) (.cons (.str e.2) .nil))) .nil) = dl recE (L ++ [e]) := app_one (f := recE) L e
theorem small_i64 {n : Nat} (h : n ≤ 60) : InR .i64 (n : Int) := by simp only [InR]; omega
theorem lens_ok {n : Nat} (hn : n ≤ 60) : ∀ c r : List UInt8, recOK c r = true → (body n c r).length ≤ 4000 ∧ (line n c r).length ≤ 4000 := fun c r h => by
  have h1 := body_len (small_i64 hn) h
  have h2 := line_len (small_i64 hn) h
  omega
/-- what the loop of readRecords knows at its head. -/
def rrS (s : List UInt8) (p : List (List UInt8 × List UInt8) × Nat) : St := ⟨[(0, .d (.str s)), (4, .own 0), (5, .d (.int .i64 p.2))], [.val (.sl true 2 (dl recE p.1))]⟩
theorem readRecords_fn (s : List UInt8) (hl : s.length ≤ 100000000) : Fn prog 147 [.str s] (fun rs => rs = [.sl true 2 (dl recE (opens 60 0 s).1), .int .i64 ((opens 60 0 s).2 : Nat)]) := by
  refine Fn_of' (fn := f147) (by exact func147) c147 r147 (n := 79) (by rfl) (rv := [.tmp 2, .tmp 3]) (by rfl) (by simp) ?_
  unfold m147
  repeat' (first
      | (simp only [onC_true, ↓wA, ↓wC, wB, frzBE, frzBS, Nat.reduceEqDiff, Nat.reduceAdd, Nat.reduceSub, reduceIte, reduceCtorEq, Nat.reduceBEq, Nat.reduceLT, decide_true, sz162])
      | (refine execG_split (fun h => ?_) (fun h => ?_) <;> simp only [h])
      | (refine execC_split (fun h => ?_) (fun h => ?_) <;> (try simp only [h]))
      | (refine onPick_split (fun h => ?_) (fun h => ?_) <;> (try simp only [h])))
  refine exec_loopN [(4, 2)] (rrS s) (Reads s) (fun p => 60 - p.1.length) ([], 0) ⟨rfl, trivial⟩ ?_ (Reads.start s) ?_
  · exact (weak_of _ rfl ⟨⟨rfl, rfl⟩, ⟨rfl, rfl⟩, ⟨rfl, rfl⟩, trivial⟩)
  intro p hp
  have hpl := hp.pos
  have h60 := hp.len
  have hE := opens_le 60 0 s
  unfold rrS
  by_cases hlt : p.1.length < 60
  · have hd : decide ((p.1.length : Int) < 60) = true := decide_eq_true (by omega)
    have hdr : (s.drop p.2).length ≤ 100000000 := by rw [List.length_drop]; omega
    have hC1 := cut_fn (s.drop p.2) 10 (by omega)
    by_cases h10 : (10 : UInt8) ∈ s.drop p.2
    · have hc10 : (s.drop p.2).contains 10 = true := List.contains_iff_mem.2 h10
      rw [hc10] at hC1
      have hbl := before_le 10 (s.drop p.2)
      have hV := verify_fn (before 10 (s.drop p.2)) (by omega)
      have hal := after_len h10
      have hnl := nxt_le (before 10 (s.drop p.2))
      have hC2 := cut_fn (if vfy (before 10 (s.drop p.2)) = true then before 35 (before 10 (s.drop p.2)) else []) 32 (by
        split
        · have := before_le 35 (before 10 (s.drop p.2)); omega
        · simp)
      have hC3 := cut_fn (nxtT (before 10 (s.drop p.2))) 64 (by omega)
      have hEn := encode_fn (p.1.length : Int) (nxt (before 10 (s.drop p.2))).1 (nxt (before 10 (s.drop p.2))).2 (by rw [maxLen_eq]; omega) (by rw [maxLen_eq]; omega)
      have hV' : Fn prog 171 [.str (before 10 (s.drop p.2))] (fun rs => rs = [.str (if vfy (before 10 (s.drop p.2)) = true then before 35 (before 10 (s.drop p.2)) else []), .bool (vfy (before 10 (s.drop p.2)))]) := by
        cases hv : vfy (before 10 (s.drop p.2)) <;> rw [hv] at hV <;> simpa using hV
      have hw : within (p.1.length : Int) 0 59 = true := by simp [within]; omega
      have hrd := nxt_rd (k := (p.1.length : Int)) (L := before 10 (s.drop p.2)) (lens_ok (by omega))
      change Fn prog _ _ (fun rs => rs = [_, .str (nxtT (before 10 (s.drop p.2))), _]) at hC2
      change Fn prog _ _ (fun rs => rs = [.str (nxt (before 10 (s.drop p.2))).1, .str (nxt (before 10 (s.drop p.2))).2, _]) at hC3
      have hn : recE (nxt (before 10 (s.drop p.2))) = recD (nxt (before 10 (s.drop p.2))).1 (nxt (before 10 (s.drop p.2))).2 := rfl
      by_cases hok : recOK (nxt (before 10 (s.drop p.2))).1 (nxt (before 10 (s.drop p.2))).2 = true
      · have hEq : encR (p.1.length : Int) (nxt (before 10 (s.drop p.2))).1 (nxt (before 10 (s.drop p.2))).2 = [.str (line (p.1.length : Int) (nxt (before 10 (s.drop p.2))).1 (nxt (before 10 (s.drop p.2))).2 ++ [10]), .bool true] := if_pos ⟨hw, hok⟩
        rw [hEq] at hEn
        have hll := line_len (small_i64 h60) hok
        by_cases hln : line (p.1.length : Int) (nxt (before 10 (s.drop p.2))).1 (nxt (before 10 (s.drop p.2))).2 = before 10 (s.drop p.2)
        · rw [if_pos ⟨hok, hln⟩] at hrd
          have hnx := hp.next hlt h10 hrd
          rw [hln] at hEn
          generalize nxt (before 10 (s.drop p.2)) = e at *
          generalize before 10 (s.drop p.2) = L at *
          repeat' (first
              | (simp only [hd, dl_len, hrd, onC_true, Int.toNat_natCast, decide_true, ↓wA, ↓wC, wB, frzBE, frzBS, Nat.reduceEqDiff, Nat.reduceAdd, Nat.reduceSub, reduceIte, reduceCtorEq, Nat.reduceBEq, Nat.reduceLT, decide_true, sz162])
              | (refine call_det (hC1) rfl rfl ?_)
              | (refine callP_det (hC1) rfl rfl ?_)
              | (refine call_det (hV') rfl rfl ?_)
              | (refine callP_det (hV') rfl rfl ?_)
              | (refine call_det (hC2) rfl rfl ?_)
              | (refine callP_det (hC2) rfl rfl ?_)
              | (refine call_det (hC3) rfl rfl ?_)
              | (refine callP_det (hC3) rfl rfl ?_)
              | (refine call_det (hEn) rfl rfl ?_)
              | (refine callP_det (hEn) rfl rfl ?_)
              | (with_reducible refine onC_i ?_ ?_; focus omega)
              | (with_reducible refine onC_i ?_ ?_; focus (simp; done))
              | (with_reducible refine onC_i ?_ ?_; focus (simp only [List.length_append, List.length_singleton]; omega))
              | (with_reducible refine onI_bare ?_ ?_; focus (simp only [InR]; omega))
              | (refine execG_split (fun h => ?_) (fun h => ?_) <;> simp only [h])
              | (refine execC_split (fun h => ?_) (fun h => ?_) <;> (try simp only [h]))
              | (refine onPick_split (fun h => ?_) (fun h => ?_) <;> (try simp only [h])))
          all_goals
            refine ⟨(p.1 ++ [e], p.2 + (L.length + 1)), ?_, hnx, by simp only [List.length_append, List.length_singleton]; omega⟩
            rw [dl_rec]
            exact (weak_of _ rfl ⟨⟨rfl, rfl⟩, ⟨rfl, rfl⟩, ⟨rfl, rfl⟩, trivial⟩)
        · rw [if_neg (fun h => hln h.2)] at hrd
          have hst := hp.stopRd hrd
          have hne : decide (line (p.1.length : Int) (nxt (before 10 (s.drop p.2))).1 (nxt (before 10 (s.drop p.2))).2 ++ [10] = before 10 (s.drop p.2) ++ [10]) = false := decide_eq_false fun h => hln (List.append_cancel_right h)
          generalize nxt (before 10 (s.drop p.2)) = e at *
          generalize before 10 (s.drop p.2) = L at *
          repeat' (first
              | (simp only [hd, dl_len, hrd, onC_true, Int.toNat_natCast, decide_true, hne, ↓wA, ↓wC, wB, frzBE, frzBS, Nat.reduceEqDiff, Nat.reduceAdd, Nat.reduceSub, reduceIte, reduceCtorEq, Nat.reduceBEq, Nat.reduceLT, decide_true, sz162])
              | (refine call_det (hC1) rfl rfl ?_)
              | (refine callP_det (hC1) rfl rfl ?_)
              | (refine call_det (hV') rfl rfl ?_)
              | (refine callP_det (hV') rfl rfl ?_)
              | (refine call_det (hC2) rfl rfl ?_)
              | (refine callP_det (hC2) rfl rfl ?_)
              | (refine call_det (hC3) rfl rfl ?_)
              | (refine callP_det (hC3) rfl rfl ?_)
              | (refine call_det (hEn) rfl rfl ?_)
              | (refine callP_det (hEn) rfl rfl ?_)
              | (with_reducible refine onC_i ?_ ?_; focus omega)
              | (with_reducible refine onC_i ?_ ?_; focus (simp; done))
              | (with_reducible refine onC_i ?_ ?_; focus (simp only [List.length_append, List.length_singleton]; omega))
              | (with_reducible refine onI_bare ?_ ?_; focus (simp only [InR]; omega))
              | (refine execG_split (fun h => ?_) (fun h => ?_) <;> simp only [h])
              | (refine execC_split (fun h => ?_) (fun h => ?_) <;> (try simp only [h]))
              | (refine onPick_split (fun h => ?_) (fun h => ?_) <;> (try simp only [h])))
          all_goals (rw [hst])
      · rw [if_neg (fun h => hok h.1)] at hrd
        have hst := hp.stopRd hrd
        have hEq : encR (p.1.length : Int) (nxt (before 10 (s.drop p.2))).1 (nxt (before 10 (s.drop p.2))).2 = [.str [], .bool false] := if_neg (fun h => hok h.2)
        rw [hEq] at hEn
        generalize nxt (before 10 (s.drop p.2)) = e at *
        generalize before 10 (s.drop p.2) = L at *
        repeat' (first
            | (simp only [hd, dl_len, hrd, onC_true, Int.toNat_natCast, decide_true, ↓wA, ↓wC, wB, frzBE, frzBS, Nat.reduceEqDiff, Nat.reduceAdd, Nat.reduceSub, reduceIte, reduceCtorEq, Nat.reduceBEq, Nat.reduceLT, decide_true, sz162])
            | (refine call_det (hC1) rfl rfl ?_)
            | (refine callP_det (hC1) rfl rfl ?_)
            | (refine call_det (hV') rfl rfl ?_)
            | (refine callP_det (hV') rfl rfl ?_)
            | (refine call_det (hC2) rfl rfl ?_)
            | (refine callP_det (hC2) rfl rfl ?_)
            | (refine call_det (hC3) rfl rfl ?_)
            | (refine callP_det (hC3) rfl rfl ?_)
            | (refine call_det (hEn) rfl rfl ?_)
            | (refine callP_det (hEn) rfl rfl ?_)
            | (with_reducible refine onC_i ?_ ?_; focus omega)
            | (with_reducible refine onC_i ?_ ?_; focus (simp; done))
            | (with_reducible refine onC_i ?_ ?_; focus (simp only [List.length_append, List.length_singleton]; omega))
            | (with_reducible refine onI_bare ?_ ?_; focus (simp only [InR]; omega))
            | (refine execG_split (fun h => ?_) (fun h => ?_) <;> simp only [h])
            | (refine execC_split (fun h => ?_) (fun h => ?_) <;> (try simp only [h]))
            | (refine onPick_split (fun h => ?_) (fun h => ?_) <;> (try simp only [h])))
        all_goals (rw [hst])
    · have hc10 : (s.drop p.2).contains 10 = false := by
        cases h : (s.drop p.2).contains 10 with
        | false => rfl
        | true => exact absurd (List.contains_iff_mem.1 h) h10
      rw [hc10] at hC1
      have hst := hp.stop10 h10
      repeat' (first
          | (simp only [hd, dl_len, onC_true, Int.toNat_natCast, ↓wA, ↓wC, wB, frzBE, frzBS, Nat.reduceEqDiff, Nat.reduceAdd, Nat.reduceSub, reduceIte, reduceCtorEq, Nat.reduceBEq, Nat.reduceLT, decide_true, sz162])
          | (refine call_det (hC1) rfl rfl ?_)
          | (refine callP_det (hC1) rfl rfl ?_)
          | (with_reducible refine onC_i ?_ ?_; focus omega)
          | (refine execG_split (fun h => ?_) (fun h => ?_) <;> simp only [h])
          | (refine execC_split (fun h => ?_) (fun h => ?_) <;> (try simp only [h]))
          | (refine onPick_split (fun h => ?_) (fun h => ?_) <;> (try simp only [h])))
      all_goals (rw [hst])
  · have hd : decide ((p.1.length : Int) < 60) = false := decide_eq_false (by omega)
    have hst := hp.stopLen hlt
    repeat' (first
        | (simp only [hd, dl_len, onC_true, Int.toNat_natCast, ↓wA, ↓wC, wB, frzBE, frzBS, Nat.reduceEqDiff, Nat.reduceAdd, Nat.reduceSub, reduceIte, reduceCtorEq, Nat.reduceBEq, Nat.reduceLT, decide_true, sz162])
        | (refine execG_split (fun h => ?_) (fun h => ?_) <;> simp only [h])
        | (refine execC_split (fun h => ?_) (fun h => ?_) <;> (try simp only [h]))
        | (refine onPick_split (fun h => ?_) (fun h => ?_) <;> (try simp only [h])))
    all_goals (rw [hst])
theorem l27Read_fn (k : Int) (L : List UInt8) (h0 : 0 ≤ k) (hk : InR .i64 k) (hl : L.length ≤ 100000000) : Fn prog 169 [.str L, .int .i64 k] (fun rs => rs = [recE (rdv k L).1, .bool (rdv k L).2]) := by
  have hN := l1Num_fn k h0 hk
  have hi := itoa_le k hk
  have hS := l1Split_fn L 35 (by omega)
  have hb := before_le 35 L
  have hS2 := l1Split_fn (rdT k L) 64 (by unfold rdT; rw [List.length_drop]; omega)
  have hp0 := parts_head 35 L
  have hp1 := parts_head 64 (rdT k L)
  by_cases hA : (before 35 L).length < (Lib.itoa k).length + 1
  · have hv : rdv k L = (([], []), false) := if_pos (.inl hA)
    rw [hv]
    have hd : decide (((before 35 L).length : Int) < (((Lib.itoa k).length + 1 : Nat) : Int)) = true := decide_eq_true (by omega)
    generalize before 35 L = T at *
    refine Fn_of' (fn := f169) (by exact func169) c169 r169 (n := 64) (by rfl) (rv := [.cell 4 162, .tmp 5]) (by rfl) (by simp) ?_
    unfold m169
    repeat' (first
        | (simp only [dl_nth, hp0, hp1, Option.map_some, onC_true, Int.toNat_natCast, Int.toNat_zero, hd, ↓wA, ↓wC, wB, frzBE, frzBS, Nat.reduceEqDiff, Nat.reduceAdd, Nat.reduceSub, reduceIte, reduceCtorEq, Nat.reduceBEq, Nat.reduceLT, decide_true, sz162])
        | (refine call_det (hN) rfl rfl ?_)
        | (refine callP_det (hN) rfl rfl ?_)
        | (refine call_det (hS) rfl rfl ?_)
        | (refine callP_det (hS) rfl rfl ?_)
        | (with_reducible refine onC_i ?_ ?_; focus omega)
        | (with_reducible refine onC_i ?_ ?_; focus (simp only [List.length_append, List.length_singleton]; omega))
        | (refine execG_split (fun h => ?_) (fun h => ?_) <;> simp only [h])
        | (refine execC_split (fun h => ?_) (fun h => ?_) <;> (try simp only [h]))
        | (refine onPick_split (fun h => ?_) (fun h => ?_) <;> (try simp only [h])))
    all_goals rfl
  have hd : decide (((before 35 L).length : Int) < (((Lib.itoa k).length + 1 : Nat) : Int)) = false := decide_eq_false (by omega)
  by_cases hB : (before 35 L).take ((Lib.itoa k).length + 1) = Lib.itoa k ++ [32]
  · have h1 : ¬ ((before 35 L).length < (Lib.itoa k).length + 1 ∨ (before 35 L).take ((Lib.itoa k).length + 1) ≠ Lib.itoa k ++ [32]) := fun h => h.elim hA fun h => h hB
    have hd2 : decide ((before 35 L).take ((Lib.itoa k).length + 1) = Lib.itoa k ++ [32]) = true := decide_eq_true hB
    have hr : (before 35 L).drop ((Lib.itoa k).length + 1) = rdT k L := rfl
    have hrl : (rdT k L).length ≤ 100000000 := by unfold rdT; rw [List.length_drop]; omega
    have hb2 := before_le 64 (rdT k L)
    by_cases h4 : (64 : UInt8) ∉ rdT k L
    · have hv : rdv k L = (([], []), false) := by unfold rdv; rw [if_neg h1, if_pos h4]
      rw [hv]
      have hd3 : decide (((before 64 (rdT k L)).length : Int) = ((rdT k L).length : Int)) = true := decide_eq_true (by rw [before_none h4])
      generalize before 35 L = T at *
      refine Fn_of' (fn := f169) (by exact func169) c169 r169 (n := 64) (by rfl) (rv := [.cell 4 162, .tmp 5]) (by rfl) (by simp) ?_
      unfold m169
      repeat' (first
          | (simp only [dl_nth, hp0, hp1, Option.map_some, onC_true, Int.toNat_natCast, Int.toNat_zero, hd, hd2, hr, hd3, ↓wA, ↓wC, wB, frzBE, frzBS, Nat.reduceEqDiff, Nat.reduceAdd, Nat.reduceSub, reduceIte, reduceCtorEq, Nat.reduceBEq, Nat.reduceLT, decide_true, sz162])
          | (refine call_det (hS2) rfl rfl ?_)
          | (refine callP_det (hS2) rfl rfl ?_)
          | (refine call_det (hN) rfl rfl ?_)
          | (refine callP_det (hN) rfl rfl ?_)
          | (refine call_det (hS) rfl rfl ?_)
          | (refine callP_det (hS) rfl rfl ?_)
          | (with_reducible refine onC_i ?_ ?_; focus omega)
          | (with_reducible refine onC_i ?_ ?_; focus (simp only [List.length_append, List.length_singleton]; omega))
          | (refine execG_split (fun h => ?_) (fun h => ?_) <;> simp only [h])
          | (refine execC_split (fun h => ?_) (fun h => ?_) <;> (try simp only [h]))
          | (refine onPick_split (fun h => ?_) (fun h => ?_) <;> (try simp only [h])))
      all_goals rfl
    · have hv : rdv k L = ((before 64 (rdT k L), after 64 (rdT k L)), recOK (before 64 (rdT k L)) (after 64 (rdT k L)) && decide (line k (before 64 (rdT k L)) (after 64 (rdT k L)) = L)) := by unfold rdv; rw [if_neg h1, if_neg h4]
      rw [hv]
      have h64 : (64 : UInt8) ∈ rdT k L := Classical.byContradiction fun h => h4 h
      have hal := after_len h64
      have hd3 : decide (((before 64 (rdT k L)).length : Int) = ((rdT k L).length : Int)) = false := decide_eq_false (by omega)
      have hdr : (rdT k L).drop ((before 64 (rdT k L)).length + 1) = after 64 (rdT k L) := (after_drop h64).symm
      have hG := l27Good_fn (before 64 (rdT k L)) (after 64 (rdT k L)) (by rw [maxLen_eq]; omega) (by rw [maxLen_eq]; omega)
      by_cases hok : recOK (before 64 (rdT k L)) (after 64 (rdT k L)) = true
      · have hLn := l27Line_fn k (before 64 (rdT k L)) (after 64 (rdT k L)) h0 hk hok
        rw [hok] at hG ⊢
        have hle : decide (line k (before 64 (rdT k L)) (after 64 (rdT k L)) ++ [10] = L ++ [10]) = decide (line k (before 64 (rdT k L)) (after 64 (rdT k L)) = L) := decide_eq_decide.2 ⟨List.append_cancel_right, fun h => by rw [h]⟩
        rw [← hle]
        have hcc : ((before 64 (rdT k L)).length : Int) + 1 = (((before 64 (rdT k L)).length + 1 : Nat) : Int) := rfl
        generalize before 64 (rdT k L) = C at *
        generalize after 64 (rdT k L) = R at *
        generalize rdT k L = T2 at *
        generalize before 35 L = T at *
        refine Fn_ofg (ps := [[1, 1, 1, 1, 1, 1, 1, 1, 0]]) (fn := f169) (by exact func169) c169 r169 (n := 64) (by rfl) (rv := [.cell 4 162, .tmp 5]) (by rfl) (by simp) ?_
        unfold m169
        simp only [ghAll, ghAt]
        repeat' (first
            | (simp only [dl_nth, hp0, hp1, Option.map_some, onC_true, Int.toNat_natCast, Int.toNat_zero, hd, hd2, hr, hd3, hdr, hcc, ↓wA, ↓wC, wB, frzBE, frzBS, Nat.reduceEqDiff, Nat.reduceAdd, Nat.reduceSub, reduceIte, reduceCtorEq, Nat.reduceBEq, Nat.reduceLT, decide_true, sz162])
            | (refine call_det (hS2) rfl rfl ?_)
            | (refine callP_det (hS2) rfl rfl ?_)
            | (refine call_det (hG) rfl rfl ?_)
            | (refine callP_det (hG) rfl rfl ?_)
            | (refine call_det (hLn) rfl rfl ?_)
            | (refine callP_det (hLn) rfl rfl ?_)
            | (refine onJ_q ?_)
            | (with_reducible refine onI_bare ?_ ?_; focus (simp only [InR]; omega))
            | (refine call_det (hN) rfl rfl ?_)
            | (refine callP_det (hN) rfl rfl ?_)
            | (refine call_det (hS) rfl rfl ?_)
            | (refine callP_det (hS) rfl rfl ?_)
            | (with_reducible refine onC_i ?_ ?_; focus omega)
            | (with_reducible refine onC_i ?_ ?_; focus (simp only [List.length_append, List.length_singleton]; omega))
            | (refine execG_split (fun h => ?_) (fun h => ?_) <;> simp only [h])
            | (refine execC_split (fun h => ?_) (fun h => ?_) <;> (try simp only [h]))
            | (refine onPick_split (fun h => ?_) (fun h => ?_) <;> (try simp only [h])))
        refine exec_gh1 (frzB 3 rfl) ?_
        simp only [D.unown, ↓wA, ↓wC, wB, frzBE, frzBS, Nat.reduceEqDiff, Nat.reduceAdd, Nat.reduceSub, reduceIte, reduceCtorEq, Nat.reduceBEq, Nat.reduceLT, decide_true, sz162]
        repeat' (first
            | (simp only [dl_nth, hp0, hp1, Option.map_some, onC_true, Int.toNat_natCast, Int.toNat_zero, hd, hd2, hr, hd3, hdr, hcc, ↓wA, ↓wC, wB, frzBE, frzBS, Nat.reduceEqDiff, Nat.reduceAdd, Nat.reduceSub, reduceIte, reduceCtorEq, Nat.reduceBEq, Nat.reduceLT, decide_true, sz162])
            | (refine call_det (hS2) rfl rfl ?_)
            | (refine callP_det (hS2) rfl rfl ?_)
            | (refine call_det (hG) rfl rfl ?_)
            | (refine callP_det (hG) rfl rfl ?_)
            | (refine call_det (hLn) rfl rfl ?_)
            | (refine callP_det (hLn) rfl rfl ?_)
            | (refine onJ_q ?_)
            | (with_reducible refine onI_bare ?_ ?_; focus (simp only [InR]; omega))
            | (refine call_det (hN) rfl rfl ?_)
            | (refine callP_det (hN) rfl rfl ?_)
            | (refine call_det (hS) rfl rfl ?_)
            | (refine callP_det (hS) rfl rfl ?_)
            | (with_reducible refine onC_i ?_ ?_; focus omega)
            | (with_reducible refine onC_i ?_ ?_; focus (simp only [List.length_append, List.length_singleton]; omega))
            | (refine execG_split (fun h => ?_) (fun h => ?_) <;> simp only [h])
            | (refine execC_split (fun h => ?_) (fun h => ?_) <;> (try simp only [h]))
            | (refine onPick_split (fun h => ?_) (fun h => ?_) <;> (try simp only [h])))
        all_goals rfl
      · rw [Bool.not_eq_true] at hok
        rw [hok] at hG ⊢
        have hcc : ((before 64 (rdT k L)).length : Int) + 1 = (((before 64 (rdT k L)).length + 1 : Nat) : Int) := rfl
        generalize before 64 (rdT k L) = C at *
        generalize after 64 (rdT k L) = R at *
        generalize rdT k L = T2 at *
        generalize before 35 L = T at *
        refine Fn_ofg (ps := [[1, 1, 1, 1, 1, 1, 1, 1, 0]]) (fn := f169) (by exact func169) c169 r169 (n := 64) (by rfl) (rv := [.cell 4 162, .tmp 5]) (by rfl) (by simp) ?_
        unfold m169
        simp only [ghAll, ghAt]
        repeat' (first
            | (simp only [dl_nth, hp0, hp1, Option.map_some, onC_true, Int.toNat_natCast, Int.toNat_zero, hd, hd2, hr, hd3, hdr, hcc, ↓wA, ↓wC, wB, frzBE, frzBS, Nat.reduceEqDiff, Nat.reduceAdd, Nat.reduceSub, reduceIte, reduceCtorEq, Nat.reduceBEq, Nat.reduceLT, decide_true, sz162])
            | (refine call_det (hS2) rfl rfl ?_)
            | (refine callP_det (hS2) rfl rfl ?_)
            | (refine call_det (hG) rfl rfl ?_)
            | (refine callP_det (hG) rfl rfl ?_)
            | (refine onJ_q ?_)
            | (with_reducible refine onI_bare ?_ ?_; focus (simp only [InR]; omega))
            | (refine call_det (hN) rfl rfl ?_)
            | (refine callP_det (hN) rfl rfl ?_)
            | (refine call_det (hS) rfl rfl ?_)
            | (refine callP_det (hS) rfl rfl ?_)
            | (with_reducible refine onC_i ?_ ?_; focus omega)
            | (with_reducible refine onC_i ?_ ?_; focus (simp only [List.length_append, List.length_singleton]; omega))
            | (refine execG_split (fun h => ?_) (fun h => ?_) <;> simp only [h])
            | (refine execC_split (fun h => ?_) (fun h => ?_) <;> (try simp only [h]))
            | (refine onPick_split (fun h => ?_) (fun h => ?_) <;> (try simp only [h])))
        refine exec_gh1 (frzB 3 rfl) ?_
        simp only [D.unown, ↓wA, ↓wC, wB, frzBE, frzBS, Nat.reduceEqDiff, Nat.reduceAdd, Nat.reduceSub, reduceIte, reduceCtorEq, Nat.reduceBEq, Nat.reduceLT, decide_true, sz162]
        repeat' (first
            | (simp only [dl_nth, hp0, hp1, Option.map_some, onC_true, Int.toNat_natCast, Int.toNat_zero, hd, hd2, hr, hd3, hdr, hcc, ↓wA, ↓wC, wB, frzBE, frzBS, Nat.reduceEqDiff, Nat.reduceAdd, Nat.reduceSub, reduceIte, reduceCtorEq, Nat.reduceBEq, Nat.reduceLT, decide_true, sz162])
            | (refine call_det (hS2) rfl rfl ?_)
            | (refine callP_det (hS2) rfl rfl ?_)
            | (refine call_det (hG) rfl rfl ?_)
            | (refine callP_det (hG) rfl rfl ?_)
            | (refine onJ_q ?_)
            | (with_reducible refine onI_bare ?_ ?_; focus (simp only [InR]; omega))
            | (refine call_det (hN) rfl rfl ?_)
            | (refine callP_det (hN) rfl rfl ?_)
            | (refine call_det (hS) rfl rfl ?_)
            | (refine callP_det (hS) rfl rfl ?_)
            | (with_reducible refine onC_i ?_ ?_; focus omega)
            | (with_reducible refine onC_i ?_ ?_; focus (simp only [List.length_append, List.length_singleton]; omega))
            | (refine execG_split (fun h => ?_) (fun h => ?_) <;> simp only [h])
            | (refine execC_split (fun h => ?_) (fun h => ?_) <;> (try simp only [h]))
            | (refine onPick_split (fun h => ?_) (fun h => ?_) <;> (try simp only [h])))
        all_goals rfl
  · have hv : rdv k L = (([], []), false) := if_pos (.inr hB)
    rw [hv]
    have hd2 : decide ((before 35 L).take ((Lib.itoa k).length + 1) = Lib.itoa k ++ [32]) = false := decide_eq_false hB
    generalize before 35 L = T at *
    refine Fn_of' (fn := f169) (by exact func169) c169 r169 (n := 64) (by rfl) (rv := [.cell 4 162, .tmp 5]) (by rfl) (by simp) ?_
    unfold m169
    repeat' (first
        | (simp only [dl_nth, hp0, hp1, Option.map_some, onC_true, Int.toNat_natCast, Int.toNat_zero, hd, hd2, ↓wA, ↓wC, wB, frzBE, frzBS, Nat.reduceEqDiff, Nat.reduceAdd, Nat.reduceSub, reduceIte, reduceCtorEq, Nat.reduceBEq, Nat.reduceLT, decide_true, sz162])
        | (refine call_det (hN) rfl rfl ?_)
        | (refine callP_det (hN) rfl rfl ?_)
        | (refine call_det (hS) rfl rfl ?_)
        | (refine callP_det (hS) rfl rfl ?_)
        | (with_reducible refine onC_i ?_ ?_; focus omega)
        | (with_reducible refine onC_i ?_ ?_; focus (simp only [List.length_append, List.length_singleton]; omega))
        | (refine execG_split (fun h => ?_) (fun h => ?_) <;> simp only [h])
        | (refine execC_split (fun h => ?_) (fun h => ?_) <;> (try simp only [h]))
        | (refine onPick_split (fun h => ?_) (fun h => ?_) <;> (try simp only [h])))
    all_goals rfl
end Go.Pe.Tryz

set_option maxRecDepth 100000
set_option maxHeartbeats 4000000
set_option linter.all false
namespace Go.Pe.Tryz
open Go.Proofs.Tryz Go.Sort
def opS (s : List UInt8) (p : List (List UInt8 × List UInt8) × Nat) : St := ⟨[(0, .d (.str s)), (4, .own 0), (5, .d (.int .i64 p.2))], [.val (.sl true 2 (dl recE p.1))]⟩
theorem l27Open_fn (s : List UInt8) (hl : s.length ≤ 100000000) : Fn prog 146 [.str s] (fun rs => rs = [.sl true 2 (dl recE (opens 60 0 s).1), .int .i64 ((opens 60 0 s).2 : Nat)]) := by
  refine Fn_of' (fn := f146) (by exact func146) c146 r146 (n := 52) (by rfl) (rv := [.tmp 2, .tmp 3]) (by rfl) (by simp) ?_
  unfold m146
  repeat' (first
      | (simp only [onC_true, ↓wA, ↓wC, wB, frzBE, frzBS, Nat.reduceEqDiff, Nat.reduceAdd, Nat.reduceSub, reduceIte, reduceCtorEq, Nat.reduceBEq, Nat.reduceLT, decide_true])
      | (refine execG_split (fun h => ?_) (fun h => ?_) <;> simp only [h])
      | (refine execC_split (fun h => ?_) (fun h => ?_) <;> (try simp only [h]))
      | (refine onPick_split (fun h => ?_) (fun h => ?_) <;> (try simp only [h])))
  refine exec_loop (opS s) (Reads s) (fun p => 60 - p.1.length) ([], 0) ?_ (Reads.start s) ?_
  · exact (weak_of _ rfl ⟨⟨rfl, rfl⟩, ⟨rfl, rfl⟩, ⟨rfl, rfl⟩, trivial⟩)
  intro p hp
  have hpl := hp.pos
  have h60 := hp.len
  have hE := opens_le 60 0 s
  unfold opS
  by_cases hend : p.2 < s.length
  · have hd0 : decide ((p.2 : Int) < (s.length : Int)) = true := decide_eq_true (by omega)
    by_cases hlt : p.1.length < 60
    · have hd : decide ((p.1.length : Int) < 60) = true := decide_eq_true (by omega)
      have hdr : (s.drop p.2).length ≤ 100000000 := by rw [List.length_drop]; omega
      have hS := l1Split_fn (s.drop p.2) 10 (by omega)
      have hp0 := parts_head 10 (s.drop p.2)
      have hbl := before_le 10 (s.drop p.2)
      have hR := l27Read_fn (p.1.length : Int) (before 10 (s.drop p.2)) (by omega) (small_i64 h60) (by omega)
      have hrd := rdv_rd (p.1.length : Int) (before 10 (s.drop p.2))
      have h2 := parts_two 10 (s.drop p.2)
      by_cases h10 : (10 : UInt8) ∈ s.drop p.2
      · have hd2 : decide (((parts 10 (s.drop p.2)).length : Int) < 2) = false := decide_eq_false (by
          have h3 : ¬ (parts 10 (s.drop p.2)).length < 2 := fun h => h2.1 h h10
          omega)
        have hal := after_len h10
        rw [List.length_drop] at hal
        cases hv : (rdv (p.1.length : Int) (before 10 (s.drop p.2))).2 with
        | true =>
          rw [hv] at hR hrd
          simp only [if_true] at hrd
          have hnx := hp.next hlt h10 hrd
          generalize (rdv (p.1.length : Int) (before 10 (s.drop p.2))).1 = e at *
          generalize before 10 (s.drop p.2) = L at *
          simp only [recE] at hR
          repeat' (first
              | (simp only [hd0, hd, hd2, hp0, dl_len, dl_nth, Option.map_some, onC_true, Int.toNat_natCast, Int.toNat_zero, ↓wA, ↓wC, wB, frzBE, frzBS, Nat.reduceEqDiff, Nat.reduceAdd, Nat.reduceSub, reduceIte, reduceCtorEq, Nat.reduceBEq, Nat.reduceLT, decide_true])
              | (refine call_det (hS) rfl rfl ?_)
              | (refine callP_det (hS) rfl rfl ?_)
              | (refine call_det (hR) rfl rfl ?_)
              | (refine callP_det (hR) rfl rfl ?_)
              | (with_reducible refine onC_i ?_ ?_; focus omega)
              | (with_reducible refine onC_i ?_ ?_; focus (simp; done))
              | (with_reducible refine onI_bare ?_ ?_; focus (simp only [InR]; omega))
              | (refine execG_split (fun h => ?_) (fun h => ?_) <;> simp only [h])
              | (refine execC_split (fun h => ?_) (fun h => ?_) <;> (try simp only [h]))
              | (refine onPick_split (fun h => ?_) (fun h => ?_) <;> (try simp only [h])))
          all_goals
            have hcast : (p.2 : Int) + L.length + 1 = ((p.2 + (L.length + 1) : Nat) : Int) := by omega
            refine ⟨(p.1 ++ [e], p.2 + (L.length + 1)), ?_, hnx, by simp only [List.length_append, List.length_singleton]; omega⟩
            rw [hcast, dl_rec]
            exact (weak_of _ rfl ⟨⟨rfl, rfl⟩, ⟨rfl, rfl⟩, ⟨rfl, rfl⟩, trivial⟩)
        | false =>
          rw [hv] at hR hrd
          have hst := hp.stopRd hrd
          generalize (rdv (p.1.length : Int) (before 10 (s.drop p.2))).1 = e at *
          generalize before 10 (s.drop p.2) = L at *
          simp only [recE] at hR
          repeat' (first
              | (simp only [hd0, hd, hd2, hp0, dl_len, dl_nth, Option.map_some, onC_true, Int.toNat_natCast, Int.toNat_zero, ↓wA, ↓wC, wB, frzBE, frzBS, Nat.reduceEqDiff, Nat.reduceAdd, Nat.reduceSub, reduceIte, reduceCtorEq, Nat.reduceBEq, Nat.reduceLT, decide_true])
              | (refine call_det (hS) rfl rfl ?_)
              | (refine callP_det (hS) rfl rfl ?_)
              | (refine call_det (hR) rfl rfl ?_)
              | (refine callP_det (hR) rfl rfl ?_)
              | (with_reducible refine onC_i ?_ ?_; focus omega)
              | (with_reducible refine onC_i ?_ ?_; focus (simp; done))
              | (refine execG_split (fun h => ?_) (fun h => ?_) <;> simp only [h])
              | (refine execC_split (fun h => ?_) (fun h => ?_) <;> (try simp only [h]))
              | (refine onPick_split (fun h => ?_) (fun h => ?_) <;> (try simp only [h])))
          all_goals (rw [hst])
      · have hd2 : decide (((parts 10 (s.drop p.2)).length : Int) < 2) = true := decide_eq_true (by
          have h3 := h2.2 h10
          omega)
        have hst := hp.stop10 h10
        generalize rdv (p.1.length : Int) (before 10 (s.drop p.2)) = e at *
        generalize before 10 (s.drop p.2) = L at *
        simp only [recE] at hR
        repeat' (first
            | (simp only [hd0, hd, hd2, hp0, dl_len, dl_nth, Option.map_some, onC_true, Int.toNat_natCast, Int.toNat_zero, ↓wA, ↓wC, wB, frzBE, frzBS, Nat.reduceEqDiff, Nat.reduceAdd, Nat.reduceSub, reduceIte, reduceCtorEq, Nat.reduceBEq, Nat.reduceLT, decide_true])
            | (refine call_det (hS) rfl rfl ?_)
            | (refine callP_det (hS) rfl rfl ?_)
            | (refine call_det (hR) rfl rfl ?_)
            | (refine callP_det (hR) rfl rfl ?_)
            | (with_reducible refine onC_i ?_ ?_; focus omega)
            | (with_reducible refine onC_i ?_ ?_; focus (simp; done))
            | (refine execG_split (fun h => ?_) (fun h => ?_) <;> simp only [h])
            | (refine execC_split (fun h => ?_) (fun h => ?_) <;> (try simp only [h]))
            | (refine onPick_split (fun h => ?_) (fun h => ?_) <;> (try simp only [h])))
        all_goals (rw [hst])
    · have hd : decide ((p.1.length : Int) < 60) = false := decide_eq_false (by omega)
      have hst := hp.stopLen hlt
      repeat' (first
          | (simp only [hd0, hd, dl_len, onC_true, Int.toNat_natCast, ↓wA, ↓wC, wB, frzBE, frzBS, Nat.reduceEqDiff, Nat.reduceAdd, Nat.reduceSub, reduceIte, reduceCtorEq, Nat.reduceBEq, Nat.reduceLT, decide_true])
          | (refine execG_split (fun h => ?_) (fun h => ?_) <;> simp only [h])
          | (refine execC_split (fun h => ?_) (fun h => ?_) <;> (try simp only [h]))
          | (refine onPick_split (fun h => ?_) (fun h => ?_) <;> (try simp only [h])))
      all_goals (rw [hst])
  · have hd0 : decide ((p.2 : Int) < (s.length : Int)) = false := decide_eq_false (by omega)
    have hst := hp.stopEnd hend
    repeat' (first
        | (simp only [hd0, dl_len, onC_true, Int.toNat_natCast, ↓wA, ↓wC, wB, frzBE, frzBS, Nat.reduceEqDiff, Nat.reduceAdd, Nat.reduceSub, reduceIte, reduceCtorEq, Nat.reduceBEq, Nat.reduceLT, decide_true])
        | (refine execG_split (fun h => ?_) (fun h => ?_) <;> simp only [h])
        | (refine execC_split (fun h => ?_) (fun h => ?_) <;> (try simp only [h]))
        | (refine onPick_split (fun h => ?_) (fun h => ?_) <;> (try simp only [h])))
    all_goals (rw [hst])
end Go.Pe.Tryz

set_option maxRecDepth 100000
set_option maxHeartbeats 4000000
set_option linter.all false
namespace Go.Pe.Tryz
open Go.Proofs.Tryz Go.Sort
def logD (d p : List UInt8) (c : Int) : D := .st (.cons (.str d) (.cons (.str p) (.cons (.int .i64 c) .nil)))
theorem toLog_fn (d p : List UInt8) (c : Int) : Fn prog 58 [logD d p c] (fun rs => rs = [logD d p c]) := by
  refine Fn_of' (fn := f58) (by exact func58) c58 r58 (n := 14) (by rfl) (rv := [.cell 2 35]) (by rfl) (by simp) ?_
  unfold m58
  simp only [logD]
  repeat' (first
      | (simp only [↓wA, ↓wC, wB, frzBE, frzBS, Nat.reduceEqDiff, Nat.reduceAdd, Nat.reduceSub, reduceIte, reduceCtorEq, Nat.reduceBEq, Nat.reduceLT, decide_true, sz35])
      | (refine execG_split (fun h => ?_) (fun h => ?_) <;> simp only [h])
      | (refine execC_split (fun h => ?_) (fun h => ?_) <;> (try simp only [h]))
      | (refine onPick_split (fun h => ?_) (fun h => ?_) <;> (try simp only [h])))
theorem eqLog_fn (d p : List UInt8) (c : Int) : Fn prog 60 [logD d p c, logD d p c] (fun rs => rs = [.bool true]) := by
  refine Fn_of' (fn := f60) (by exact func60) c60 r60 (n := 20) (by rfl) (rv := [.tmp 4]) (by rfl) (by simp) ?_
  unfold m60
  simp only [logD]
  repeat' (first
      | (simp only [decide_true, ↓wA, ↓wC, wB, frzBE, frzBS, Nat.reduceEqDiff, Nat.reduceAdd, Nat.reduceSub, reduceIte, reduceCtorEq, Nat.reduceBEq, Nat.reduceLT, decide_true, sz35])
      | (refine execG_split (fun h => ?_) (fun h => ?_) <;> simp only [h])
      | (refine execC_split (fun h => ?_) (fun h => ?_) <;> (try simp only [h]))
      | (refine onPick_split (fun h => ?_) (fun h => ?_) <;> (try simp only [h])))
/-- is it a log? -/
def lv (d p : List UInt8) (c : Int) : Bool := decide (((opens 60 0 (d ++ p)).2 : Int) = ((d ++ p).length : Nat)) && decide (((opens 60 0 d).2 : Int) = (d.length : Nat)) && decide (c = ((opens 60 0 (d ++ p)).1.length : Nat))
def recsOf (d p : List UInt8) : List (List UInt8 × List UInt8) := (opens 60 0 (d ++ p)).1
theorem lv_short {d p : List UInt8} {c : Int} (h : lv d p c = true) : d.length + p.length ≤ 30000 := by
  simp only [lv, Bool.and_eq_true, decide_eq_true_eq] at h
  have hB := opens_short (B := 430) (fun k c r h0 h1 hok => line_len (by simp only [InR]; omega) hok) 60 0 (d ++ p) (by omega) (by omega)
  have := h.1.1
  rw [List.length_append] at this
  omega
theorem recordsOf_fn (d p : List UInt8) (c : Int) (hl : d.length + p.length ≤ 100000000) : Fn prog 108 [logD d p c] (fun rs => rs = [.sl true 2 (dl recE (recsOf d p)), .bool (lv d p c)]) := by
  have hA := readRecords_fn (d ++ p) (by rw [List.length_append]; omega)
  have hD := readRecords_fn d (by omega)
  refine Fn_of' (fn := f108) (by exact func108) c108 r108 (n := 44) (by rfl) (rv := [.tmp 2, .tmp 3]) (by rfl) (by simp) ?_
  unfold m108
  simp only [logD]
  repeat' (first
      | (simp only [dl_len, onC_true, ↓wA, ↓wC, wB, frzBE, frzBS, Nat.reduceEqDiff, Nat.reduceAdd, Nat.reduceSub, reduceIte, reduceCtorEq, Nat.reduceBEq, Nat.reduceLT, decide_true, sz35])
      | (refine call_det (hA) rfl rfl ?_)
      | (refine callP_det (hA) rfl rfl ?_)
      | (refine call_det (hD) rfl rfl ?_)
      | (refine callP_det (hD) rfl rfl ?_)
      | (with_reducible refine onC_i ?_ ?_; focus (simp only [List.length_append]; omega))
      | (with_reducible refine onC_i ?_ ?_; focus omega)
      | (refine execG_split (fun h => ?_) (fun h => ?_) <;> simp only [h])
      | (refine execC_split (fun h => ?_) (fun h => ?_) <;> (try simp only [h]))
      | (refine onPick_split (fun h => ?_) (fun h => ?_) <;> (try simp only [h])))
  all_goals (unfold recsOf lv; simp_all [List.length_append])
theorem isValidLog_fn (d p : List UInt8) (c : Int) (hl : d.length + p.length ≤ 100000000) : Fn prog 59 [logD d p c] (fun rs => rs = [.bool (lv d p c)]) := by
  have hR := recordsOf_fn d p c hl
  refine Fn_of' (fn := f59) (by exact func59) c59 r59 (n := 11) (by rfl) (rv := [.tmp 2]) (by rfl) (by simp) ?_
  unfold m59
  simp only [logD] at hR ⊢
  repeat' (first
      | (simp only [↓wA, ↓wC, wB, frzBE, frzBS, Nat.reduceEqDiff, Nat.reduceAdd, Nat.reduceSub, reduceIte, reduceCtorEq, Nat.reduceBEq, Nat.reduceLT, decide_true, sz35])
      | (refine call_det (hR) rfl rfl ?_)
      | (refine callP_det (hR) rfl rfl ?_)
      | (refine execG_split (fun h => ?_) (fun h => ?_) <;> simp only [h])
      | (refine execC_split (fun h => ?_) (fun h => ?_) <;> (try simp only [h]))
      | (refine onPick_split (fun h => ?_) (fun h => ?_) <;> (try simp only [h])))
theorem l27Log_fn (d p : List UInt8) (c : Int) (hl : d.length + p.length ≤ 100000000) : Fn prog 107 [logD d p c] (fun rs => rs = [.bool (lv d p c)]) := by
  have hA := l27Open_fn (d ++ p) (by rw [List.length_append]; omega)
  have hD := l27Open_fn d (by omega)
  refine Fn_of' (fn := f107) (by exact func107) c107 r107 (n := 53) (by rfl) (rv := [.tmp 2]) (by rfl) (by simp) ?_
  unfold m107
  simp only [logD]
  repeat' (first
      | (simp only [dl_len, onC_true, ↓wA, ↓wC, wB, frzBE, frzBS, Nat.reduceEqDiff, Nat.reduceAdd, Nat.reduceSub, reduceIte, reduceCtorEq, Nat.reduceBEq, Nat.reduceLT, decide_true, sz35])
      | (refine call_det (hA) rfl rfl ?_)
      | (refine callP_det (hA) rfl rfl ?_)
      | (refine call_det (hD) rfl rfl ?_)
      | (refine callP_det (hD) rfl rfl ?_)
      | (with_reducible refine onC_i ?_ ?_; focus (simp only [List.length_append]; omega))
      | (with_reducible refine onC_i ?_ ?_; focus omega)
      | (with_reducible refine onI_bare ?_ ?_; focus (simp only [InR]; omega))
      | (refine execG_split (fun h => ?_) (fun h => ?_) <;> simp only [h])
      | (refine execC_split (fun h => ?_) (fun h => ?_) <;> (try simp only [h]))
      | (refine onPick_split (fun h => ?_) (fun h => ?_) <;> (try simp only [h])))
  all_goals
    by_cases hs : d.length + p.length ≤ 30000
    · first
        | (exfalso; simp only [decide_eq_true_eq] at *; omega)
        | (unfold lv; rw [show ((d ++ p).length : Int) = (d.length : Int) + p.length by simp, show decide (c = ((opens 60 0 (d ++ p)).1.length : Int)) = decide (((opens 60 0 (d ++ p)).1.length : Int) = c) from decide_eq_decide.2 eq_comm]; simp_all)
    · have hf : lv d p c = false := by
        cases hlv : lv d p c with
        | false => rfl
        | true => exact absurd (lv_short hlv) hs
      first
        | (exfalso; simp only [decide_eq_true_eq, decide_eq_false_iff_not] at *; omega)
        | (rw [hf])
end Go.Pe.Tryz

set_option maxRecDepth 100000
set_option maxHeartbeats 4000000
set_option linter.all false
namespace Go.Pe.Tryz
open Go.Proofs.Tryz
structure App where
  i : Int
  q : Int
  d : Int
  a : List Int
  h : List Int
  s : Int
def App.d' (x : App) : D := .st (.cons (.int .i64 x.i) (.cons (.int .i64 x.q) (.cons (.int .i64 x.d) (.cons (.sl false 1 (dl iD x.a)) (.cons (.sl false 1 (dl iD x.h)) (.cons (.int .i64 x.s) .nil))))))
def App.ok0 (x : App) : Prop := x.a.length ≤ 1048576 ∧ x.h.length ≤ 1048576
theorem ints_noOwn (v : List Int) : (dl iD v).noOwn = true := dl_noOwn iD_noOwn v
theorem ints_unown (v : List Int) : (dl iD v).unown = dl iD v := dl_unown iD_unown v
theorem szIntS_fn (v : List Int) (n : Int) (h0 : 0 ≤ n) (h1 : n ≤ 1048576) (hm : v.length ≤ maxLen) : Fn prog 150 [.sl false 1 (dl iD v), .int .i64 n] (fun rs => rs = [.int .i64 (if n - v.length < 0 then -1 else n - v.length)]) := by
  have hm' : maxLen = 9223372036854775807 := by rfl
  refine Fn_of' (fn := f150) (by exact func150) c150 r150 (n := 12) (by rfl) (rv := [.tmp 4]) (by rfl) (by simp) ?_
  unfold m150
  simp only [dl_len, ↓wA, ↓wC, wB, frzBE, frzBS, Nat.reduceEqDiff, Nat.reduceAdd, Nat.reduceSub, reduceIte, reduceCtorEq, Nat.reduceBEq, Nat.reduceLT, decide_true]
  refine onI_bare (by simp only [InR]; omega) ?_
  simp only [↓wA, ↓wC, wB, frzBE, frzBS, Nat.reduceEqDiff, Nat.reduceAdd, Nat.reduceSub, reduceIte, reduceCtorEq, Nat.reduceBEq, Nat.reduceLT, decide_true]
  refine execC_split (fun h => ?_) (fun h => ?_) <;> simp only [↓wA, ↓wC, wB, frzBE, frzBS, Nat.reduceEqDiff, Nat.reduceAdd, Nat.reduceSub, reduceIte, reduceCtorEq, Nat.reduceBEq, Nat.reduceLT, decide_true]
  · rw [if_pos (by simpa using h)]
  · rw [if_neg (by simpa using h)]
theorem eqIntS_refl (v : List Int) (hlen : v.length ≤ 1048576) : Fn prog 159 [.sl false 1 (dl iD v), .sl false 1 (dl iD v)] (fun rs => rs = [.bool true]) := by
  refine Fn_of' (fn := f159) (by exact func159) c159 r159 (n := 26) (by rfl) (rv := [.tmp 4]) (by rfl) (by simp) ?_
  unfold m159
  simp only [↓wA, ↓wC, wB, frzBE, frzBS, Nat.reduceEqDiff, Nat.reduceAdd, Nat.reduceSub, reduceIte, reduceCtorEq, Nat.reduceBEq, Nat.reduceLT, decide_true]
  refine exec_loop (fun i : Nat => ⟨[(0, .d (.sl false 1 (dl iD v))), (1, .d (.sl false 1 (dl iD v))), (5, .d (.int .i64 i))], []⟩)
    (fun i => i ≤ v.length) (fun i => v.length - i) 0 (weak_of [] rfl ⟨⟨rfl, rfl⟩, ⟨rfl, rfl⟩, ⟨rfl, rfl⟩, trivial⟩) (Nat.zero_le _) ?_
  intro i hi
  by_cases hlt : i < v.length
  · obtain ⟨r, hr⟩ := get_lt hlt
    have hd : decide ((i : Int) < (v.length : Int)) = true := decide_eq_true (by omega)
    have h0 : (0 : Int) ≤ (i : Int) := by omega
    repeat' (first
        | (simp only [dl_len, dl_nth, hd, Int.toNat_natCast, hr, Option.map_some, h0, onC_true, iD, ↓wA, ↓wC, wB, frzBE, frzBS, Nat.reduceEqDiff, Nat.reduceAdd, Nat.reduceSub, reduceIte, reduceCtorEq, Nat.reduceBEq, Nat.reduceLT, decide_true])
        | (refine execG_split (fun h => ?_) (fun h => ?_) <;> simp only [h])
        | (refine execC_split (fun h => ?_) (fun h => ?_) <;> (try simp only [h]))
        | (refine onPick_split (fun h => ?_) (fun h => ?_) <;> (try simp only [h])))
    refine onI_bare (by simp only [InR]; omega) ?_
    exact ⟨i + 1, weak_of [] rfl ⟨⟨rfl, rfl⟩, ⟨rfl, rfl⟩, ⟨rfl, rfl⟩, trivial⟩, by omega, by omega⟩
  · have hd : decide ((i : Int) < (v.length : Int)) = false := decide_eq_false (by omega)
    simp only [dl_len, hd, ↓wA, ↓wC, wB, frzBE, frzBS, Nat.reduceEqDiff, Nat.reduceAdd, Nat.reduceSub, reduceIte, reduceCtorEq, Nat.reduceBEq, Nat.reduceLT, decide_true]
theorem toIntS_own (v : List Int) (hlen : v.length ≤ 1048576) : Fn prog 153 [.sl false 1 (dl iD v)] (fun rs => rs = [.sl true 1 (dl iD v)]) := by
  refine Fn_of' (fn := f153) (by exact func153) c153 r153 (n := 22) (by rfl) (rv := [.tmp 2]) (by rfl) (by simp) ?_
  unfold m153
  simp only [↓wA, ↓wC, wB, frzBE, frzBS, Nat.reduceEqDiff, Nat.reduceAdd, Nat.reduceSub, reduceIte, reduceCtorEq, Nat.reduceBEq, Nat.reduceLT, decide_true]
  simp only [dl_len, ↓wA, ↓wC, wB, frzBE, frzBS, Nat.reduceEqDiff, Nat.reduceAdd, Nat.reduceSub, reduceIte, reduceCtorEq, Nat.reduceBEq, Nat.reduceLT, decide_true]
  refine onC_i (by omega) ?_
  have hz : ofL (List.replicate (↑v.length : Int).toNat (D.int .i64 0)) = dl iD (v.take 0 ++ List.replicate (v.length - 0) 0) := by
    rw [show D.int .i64 0 = iD 0 from rfl, dl_replicate]; simp
  rw [hz]
  refine exec_loop (fun i : Nat => ⟨[(0, .d (.sl false 1 (dl iD v))), (3, .own 0), (4, .d (.int .i64 i))], [.val (.sl true 1 (dl iD (v.take i ++ List.replicate (v.length - i) 0)))]⟩)
    (fun i => i ≤ v.length) (fun i => v.length - i) 0 (weak_of [] rfl ⟨⟨rfl, rfl⟩, ⟨rfl, rfl⟩, ⟨rfl, rfl⟩, trivial⟩) (Nat.zero_le _) ?_
  intro i hi
  by_cases hlt : i < v.length
  · obtain ⟨r, hr⟩ := get_lt hlt
    have hd : decide ((i : Int) < (v.length : Int)) = true := by simp; omega
    have h0 : (0 : Int) ≤ (i : Int) := by omega
    have hn : (v.take i ++ List.replicate (v.length - i) (0 : Int))[i]? = some 0 := by
      rw [List.getElem?_append_right (by simp; omega), List.length_take, Nat.min_eq_left (by omega), Nat.sub_self, show v.length - i = (v.length - (i + 1)) + 1 by omega]; rfl
    repeat' (first
        | (simp only [dl_len, dl_nth, hd, h0, Int.toNat_natCast, hr, hn, Option.map_some, onC_true, iD, ↓wA, ↓wC, wB, frzBE, frzBS, Nat.reduceEqDiff, Nat.reduceAdd, Nat.reduceSub, reduceIte, reduceCtorEq, Nat.reduceBEq, Nat.reduceLT, decide_true])
        | (refine onI_bare (by simp only [InR]; omega) ?_)
        | (refine execG_split (fun h => ?_) (fun h => ?_) <;> simp only [h])
        | (refine execC_split (fun h => ?_) (fun h => ?_) <;> (try simp only [h]))
        | (refine onPick_split (fun h => ?_) (fun h => ?_) <;> (try simp only [h])))
    have hfs : (dl iD (v.take i ++ List.replicate (v.length - i) (0 : Int))).setN i (D.int .i64 r) = dl iD (v.take (i + 1) ++ List.replicate (v.length - (i + 1)) 0) := by
      rw [show D.int .i64 r = iD r from rfl, dl_setN, fill_step hr]
    rw [hfs]
    exact ⟨i + 1, weak_of [] rfl ⟨⟨rfl, rfl⟩, ⟨rfl, rfl⟩, ⟨rfl, rfl⟩, trivial⟩, by omega, by omega⟩
  · have hd : decide ((i : Int) < (v.length : Int)) = false := by simp; omega
    have e : i = v.length := by omega
    simp only [dl_len, hd, ↓wA, ↓wC, wB, frzBE, frzBS, Nat.reduceEqDiff, Nat.reduceAdd, Nat.reduceSub, reduceIte, reduceCtorEq, Nat.reduceBEq, Nat.reduceLT, decide_true]
    simp [e]
theorem App.noOwn (x : App) : x.d'.noOwn = true := by simp [App.d', D.noOwn, ints_noOwn]
theorem App.unown (x : App) : x.d'.unown = x.d' := by simp [App.d', D.unown, ints_unown]
end Go.Pe.Tryz

set_option maxRecDepth 100000
set_option maxHeartbeats 4000000
set_option linter.all false
namespace Go.Pe.Tryz
open Go.Proofs.Tryz
end Go.Pe.Tryz

set_option maxRecDepth 100000
set_option maxHeartbeats 4000000
set_option linter.all false
namespace Go.Pe.Tryz
open Go.Proofs.Tryz
end Go.Pe.Tryz

set_option maxRecDepth 100000
set_option maxHeartbeats 4000000
set_option linter.all false
namespace Go.Pe.Tryz
open Go.Proofs.Tryz
theorem isDay_fn (n : Int) : Fn prog 86 [.int .i64 n] (fun rs => rs = [.bool (within n 0 20000)]) := by
  refine Fn_of' (fn := f86) (by exact func86) c86 r86 (n := 5) (by rfl) (rv := [.tmp 2]) (by rfl) (by simp) ?_
  unfold m86
  repeat' (first
      | (simp only [↓wA, ↓wC, wB, frzBE, frzBS, Nat.reduceEqDiff, Nat.reduceAdd, Nat.reduceSub, reduceIte, reduceCtorEq, Nat.reduceBEq, Nat.reduceLT, decide_true])
      | (refine call_det (within_fn _ _ _) rfl rfl ?_)
      | (refine callP_det (within_fn _ _ _) rfl rfl ?_)
      | (refine execG_split (fun h => ?_) (fun h => ?_) <;> simp only [h])
      | (refine execC_split (fun h => ?_) (fun h => ?_) <;> (try simp only [h]))
      | (refine onPick_split (fun h => ?_) (fun h => ?_) <;> (try simp only [h])))
theorem l2Day_fn (n : Int) : Fn prog 95 [.int .i64 n] (fun rs => rs = [.bool (within n 0 20000)]) := by
  refine Fn_of' (fn := f95) (by exact func95) c95 r95 (n := 5) (by rfl) (rv := [.tmp 2]) (by rfl) (by simp) ?_
  unfold m95
  repeat' (first
      | (simp only [↓wA, ↓wC, wB, frzBE, frzBS, Nat.reduceEqDiff, Nat.reduceAdd, Nat.reduceSub, reduceIte, reduceCtorEq, Nat.reduceBEq, Nat.reduceLT, decide_true])
      | (refine call_det (l1In_fn _ _ _) rfl rfl ?_)
      | (refine callP_det (l1In_fn _ _ _) rfl rfl ?_)
      | (refine execG_split (fun h => ?_) (fun h => ?_) <;> simp only [h])
      | (refine execC_split (fun h => ?_) (fun h => ?_) <;> (try simp only [h]))
      | (refine onPick_split (fun h => ?_) (fun h => ?_) <;> (try simp only [h])))
end Go.Pe.Tryz

set_option maxRecDepth 100000
set_option maxHeartbeats 4000000
set_option linter.all false
namespace Go.Pe.Tryz
open Go.Proofs.Tryz
/-- a list rises. -/
def rises (v : List Int) : Bool := (List.range (v.length - 1)).all fun j => decide (v.getD j 0 < v.getD (j + 1) 0)
theorem rises_iff (v : List Int) : rises v = true ↔ ∀ j, j + 1 < v.length → v.getD j 0 < v.getD (j + 1) 0 := by
  simp only [rises, List.all_eq_true, List.mem_range, decide_eq_true_eq]
  exact ⟨fun h j hj => h j (by omega), fun h j hj => h j (by omega)⟩
theorem areRising_fn (v : List Int) (hlen : v.length ≤ 1048576) : Fn prog 135 [.sl false 1 (dl iD v)] (fun rs => rs = [.bool (rises v)]) := by
  refine Fn_of' (fn := f135) (by exact func135) c135 r135 (n := 20) (by rfl) (rv := [.tmp 2]) (by rfl) (by simp) ?_
  unfold m135
  simp only [↓wA, ↓wC, wB, frzBE, frzBS, Nat.reduceEqDiff, Nat.reduceAdd, Nat.reduceSub, reduceIte, reduceCtorEq, Nat.reduceBEq, Nat.reduceLT, decide_true]
  refine exec_loop (fun i : Nat => ⟨[(0, .d (.sl false 1 (dl iD v))), (3, .d (.int .i64 (i + 1 : Nat)))], []⟩)
    (fun i => i ≤ v.length ∧ ∀ j, j + 1 < i + 1 → j + 1 < v.length → v.getD j 0 < v.getD (j + 1) 0) (fun i => v.length - i) 0 (weak_of [] rfl ⟨⟨rfl, rfl⟩, ⟨rfl, rfl⟩, trivial⟩) ⟨Nat.zero_le _, fun j h => by omega⟩ ?_
  rintro i ⟨hi, hp⟩
  by_cases hlt : i + 1 < v.length
  · obtain ⟨a, ha⟩ := get_lt (show i < v.length by omega)
    obtain ⟨b, hb⟩ := get_lt hlt
    have hd : decide (((i + 1 : Nat) : Int) < (v.length : Int)) = true := decide_eq_true (by omega)
    have h0 : (0 : Int) ≤ ((i + 1 : Nat) : Int) := by omega
    have h1 : (0 : Int) ≤ ((i + 1 : Nat) : Int) - 1 := by omega
    have ha' : v[(((i + 1 : Nat) : Int) - 1).toNat]? = some a := by rw [show (((i + 1 : Nat) : Int) - 1).toNat = i by omega]; exact ha
    have ga : v.getD i 0 = a := by simp [List.getD, ha]
    have gb : v.getD (i + 1) 0 = b := by simp [List.getD, hb]
    repeat' (first
        | (simp only [dl_len, dl_nth, hd, h0, h1, ha', hb, Int.toNat_natCast, Option.map_some, onC_true, iD, ↓wA, ↓wC, wB, frzBE, frzBS, Nat.reduceEqDiff, Nat.reduceAdd, Nat.reduceSub, reduceIte, reduceCtorEq, Nat.reduceBEq, Nat.reduceLT, decide_true])
        | (refine onI_bare (by simp only [InR]; omega) ?_)
        | (refine execG_split (fun h => ?_) (fun h => ?_) <;> simp only [h])
        | (refine execC_split (fun h => ?_) (fun h => ?_) <;> (try simp only [h]))
        | (refine onPick_split (fun h => ?_) (fun h => ?_) <;> (try simp only [h])))
    · have hr : rises v = false := by
        cases hr : rises v with
        | false => rfl
        | true =>
          have := (rises_iff v).1 hr i hlt
          rw [ga, gb] at this
          simp at h; omega
      rw [hr]
    · refine ⟨i + 1, weak_of [] rfl ⟨⟨rfl, rfl⟩, ⟨rfl, rfl⟩, trivial⟩, ⟨by omega, fun j hj hj2 => ?_⟩, by omega⟩
      by_cases e : j = i
      · subst e
        rw [ga, gb]
        simp at h; omega
      · exact hp j (by omega) hj2
  · have hd : decide (((i + 1 : Nat) : Int) < (v.length : Int)) = false := decide_eq_false (by omega)
    have hr : rises v = true := (rises_iff v).2 fun j hj => hp j (by omega) hj
    simp only [dl_len, hd, ↓wA, ↓wC, wB, frzBE, frzBS, Nat.reduceEqDiff, Nat.reduceAdd, Nat.reduceSub, reduceIte, reduceCtorEq, Nat.reduceBEq, Nat.reduceLT, decide_true]
    rw [hr]
end Go.Pe.Tryz

set_option maxRecDepth 100000
set_option maxHeartbeats 4000000
set_option linter.all false
namespace Go.Pe.Tryz
open Go.Proofs.Tryz
/-- indexFuncI: the first element of which a test holds. -/
theorem indexFuncI_fn (p : Int → Bool) (g : Nat) (c : D) (xs : List Int) (hc : c.caps = true) (he : enterOK prog.P g = true) (hlen : xs.length ≤ 1048576) (hp : ∀ x ∈ xs, Fn prog g (iD x :: c.list) (fun rs => rs = [.bool (p x)])) :
    Fn prog 162 [.sl false 1 (dl iD xs), .clo g c] (fun rs => rs = [.int .i64 (idxOf p xs)]) := by
  refine Fn_of' (fn := f162) (by exact func162) c162 r162 (n := 19) (by rfl) (rv := [.tmp 4]) (by rfl) (by simp) ?_
  unfold m162
  simp only [dl_len, ↓wA, ↓wC, wB, frzBE, frzBS, Nat.reduceEqDiff, Nat.reduceAdd, Nat.reduceSub, reduceIte, reduceCtorEq, Nat.reduceBEq, Nat.reduceLT, decide_true]
  refine exec_range xs.length (fun i : Nat => ⟨[(0, .d (.sl false 1 (dl iD xs))), (1, .d (.clo g c)), (7, .d (.int .i64 xs.length)), (8, .d (.int .i64 i))], []⟩) (fun i => ∀ j r, j < i → xs[j]? = some r → p r = false) (weak_of _ rfl ⟨⟨rfl, rfl⟩, ⟨rfl, rfl⟩, ⟨rfl, rfl⟩, ⟨rfl, rfl⟩, trivial⟩) (fun j r hj => by omega) ?_ ?_
  · intro i hlt hinv hd h0
    obtain ⟨r, hr⟩ := get_lt hlt
    have hcl := hp r (List.mem_of_getElem? hr)
    simp only [hd, h0, dl_nth, Int.toNat_natCast, hr, Option.map_some, onC_true, ↓rd_iD, ↓wA, ↓wC, wB, frzBE, frzBS, Nat.reduceEqDiff, Nat.reduceAdd, Nat.reduceSub, reduceIte, reduceCtorEq, Nat.reduceBEq, Nat.reduceLT, decide_true]
    refine callW_det (ds := [iD r]) hcl he hc (by simp [argsD, argD, valOf, iD]) rfl ?_
    cases hpr : p r with
    | true =>
      simp only [↓wA, ↓wC, wB, frzBE, frzBS, Nat.reduceEqDiff, Nat.reduceAdd, Nat.reduceSub, reduceIte, reduceCtorEq, Nat.reduceBEq, Nat.reduceLT, decide_true]
      rw [idxOf_hit hr hpr hinv]
    | false =>
      simp only [↓wA, ↓wC, wB, frzBE, frzBS, Nat.reduceEqDiff, Nat.reduceAdd, Nat.reduceSub, reduceIte, reduceCtorEq, Nat.reduceBEq, Nat.reduceLT, decide_true]
      refine onI_bare (by simp only [InR]; omega) ?_
      refine next_range (weak_of _ rfl ⟨⟨rfl, rfl⟩, ⟨rfl, rfl⟩, ⟨rfl, rfl⟩, ⟨rfl, rfl⟩, trivial⟩) hlt fun j s hj hs => ?_
      by_cases e : j = i
      · subst e; rw [hr] at hs; injection hs with hs; rw [← hs]; exact hpr
      · exact hinv j s (by omega) hs
  · intro hinv hd
    simp only [hd, ↓wA, ↓wC, wB, frzBE, frzBS, Nat.reduceEqDiff, Nat.reduceAdd, Nat.reduceSub, reduceIte, reduceCtorEq, Nat.reduceBEq, Nat.reduceLT, decide_true]
    rw [idxOf_none fun j r hj => hinv j r (lt_of_get hj) hj]
/-- containsFuncI: is there an element of which a test holds? -/
theorem containsFuncI_fn (p : Int → Bool) (g : Nat) (c : D) (xs : List Int) (hc : c.caps = true) (he : enterOK prog.P g = true) (hlen : xs.length ≤ 1048576) (hp : ∀ x ∈ xs, Fn prog g (iD x :: c.list) (fun rs => rs = [.bool (p x)])) :
    Fn prog 136 [.sl false 1 (dl iD xs), .clo g c] (fun rs => rs = [.bool (xs.any p)]) := by
  refine Fn_of' (fn := f136) (by exact func136) c136 r136 (n := 9) (by rfl) (rv := [.tmp 4]) (by rfl) (by simp) ?_
  unfold m136
  simp only [↓wA, ↓wC, wB, frzBE, frzBS, Nat.reduceEqDiff, Nat.reduceAdd, Nat.reduceSub, reduceIte, reduceCtorEq, Nat.reduceBEq, Nat.reduceLT, decide_true]
  refine call_det (indexFuncI_fn p g c xs hc he hlen hp) rfl rfl ?_
  simp only [idxOf_any, ↓wA, ↓wC, wB, frzBE, frzBS, Nat.reduceEqDiff, Nat.reduceAdd, Nat.reduceSub, reduceIte, reduceCtorEq, Nat.reduceBEq, Nat.reduceLT, decide_true]
end Go.Pe.Tryz

set_option maxRecDepth 100000
set_option maxHeartbeats 4000000
set_option linter.all false
namespace Go.Pe.Tryz
open Go.Proofs.Tryz
theorem any_not {α : Type} (p : α → Bool) (xs : List α) : xs.any (fun x => !p x) = !xs.all p := by
  induction xs with
  | nil => rfl
  | cons a v ih => simp [List.any_cons, List.all_cons, ih]
theorem l1Rising_fn (v : List Int) (a b : Int) (hlen : v.length ≤ 1048576) : Fn prog 152 [.sl false 1 (dl iD v), .int .i64 a, .int .i64 b] (fun rs => rs = [.bool (v.all (fun n => within n a b) && rises v)]) := by
  refine Fn_of' (fn := f152) (by exact func152) c152 r152 (n := 38) (by rfl) (rv := [.tmp 6]) (by rfl) (by simp) ?_
  unfold m152
  simp only [↓wA, ↓wC, wB, frzBE, frzBS, Nat.reduceEqDiff, Nat.reduceAdd, Nat.reduceSub, reduceIte, reduceCtorEq, Nat.reduceBEq, Nat.reduceLT, decide_true]
  refine exec_range v.length (fun i : Nat => ⟨[(0, .d (.sl false 1 (dl iD v))), (1, .d (.int .i64 a)), (2, .d (.int .i64 b)), (7, .d (.int .i64 i))], []⟩) (fun i => (∀ j r, j < i → v[j]? = some r → within r a b = true) ∧ ∀ j, j + 1 < i → v.getD j 0 < v.getD (j + 1) 0) (weak_of _ rfl ⟨⟨rfl, rfl⟩, ⟨rfl, rfl⟩, ⟨rfl, rfl⟩, ⟨rfl, rfl⟩, trivial⟩) ⟨fun j r hj => by omega, fun j hj => by omega⟩ ?_ ?_
  · rintro i hlt ⟨hin, hri⟩ hd h0
    obtain ⟨r, hr⟩ := get_lt hlt
    have gr : v.getD i 0 = r := by simp [List.getD, hr]
    have hc := l1In_fn r a b
    cases hw : within r a b with
    | false =>
      have hres : (v.all (fun n => within n a b) && rises v) = false := by
        have : v.all (fun n => within n a b) = false := List.all_eq_false.2 ⟨r, List.mem_of_getElem? hr, by simp [hw]⟩
        rw [this]; rfl
      rw [hw] at hc
      repeat' (first
          | (simp only [dl_len, dl_nth, hd, h0, Int.toNat_natCast, hr, Option.map_some, ↓rd_iD, onC_true, ↓wA, ↓wC, wB, frzBE, frzBS, Nat.reduceEqDiff, Nat.reduceAdd, Nat.reduceSub, reduceIte, reduceCtorEq, Nat.reduceBEq, Nat.reduceLT, decide_true])
          | (refine call_det (hc) rfl rfl ?_)
          | (refine callP_det (hc) rfl rfl ?_)
          | (refine execG_split (fun h => ?_) (fun h => ?_) <;> simp only [h])
          | (refine execC_split (fun h => ?_) (fun h => ?_) <;> (try simp only [h]))
          | (refine onPick_split (fun h => ?_) (fun h => ?_) <;> (try simp only [h])))
      all_goals rw [hres]
    | true =>
      rw [hw] at hc
      have hin' : ∀ j s, j < i + 1 → v[j]? = some s → within s a b = true := fun j s hj hs => by
        by_cases e : j = i
        · subst e; rw [hr] at hs; injection hs with hs; rw [← hs]; exact hw
        · exact hin j s (by omega) hs
      cases i with
      | zero =>
        have hg : decide ((0 : Int) < ((0 : Nat) : Int)) = false := by decide
        repeat' (first
            | (simp only [dl_len, dl_nth, hd, h0, Int.toNat_natCast, hr, Option.map_some, ↓rd_iD, onC_true, hg, ↓wA, ↓wC, wB, frzBE, frzBS, Nat.reduceEqDiff, Nat.reduceAdd, Nat.reduceSub, reduceIte, reduceCtorEq, Nat.reduceBEq, Nat.reduceLT, decide_true])
            | (refine call_det (hc) rfl rfl ?_)
            | (refine callP_det (hc) rfl rfl ?_)
            | (refine onI_bare (by simp only [InR]; omega) ?_)
            | (refine execG_split (fun h => ?_) (fun h => ?_) <;> simp only [h])
            | (refine execC_split (fun h => ?_) (fun h => ?_) <;> (try simp only [h]))
            | (refine onPick_split (fun h => ?_) (fun h => ?_) <;> (try simp only [h])))
        all_goals exact next_range (weak_of _ rfl ⟨⟨rfl, rfl⟩, ⟨rfl, rfl⟩, ⟨rfl, rfl⟩, ⟨rfl, rfl⟩, trivial⟩) hlt ⟨hin', fun j hj => by omega⟩
      | succ k =>
        obtain ⟨y, hy⟩ := get_lt (show k < v.length by omega)
        have gy : v.getD k 0 = y := by simp [List.getD, hy]
        have hg : decide ((0 : Int) < ((k + 1 : Nat) : Int)) = true := decide_eq_true (by omega)
        have h1 : (0 : Int) ≤ ((k + 1 : Nat) : Int) - 1 := by omega
        have hy' : v[(((k + 1 : Nat) : Int) - 1).toNat]? = some y := by rw [show (((k + 1 : Nat) : Int) - 1).toNat = k by omega]; exact hy
        by_cases hl : y < r
        · have hq : decide (r ≤ y) = false := decide_eq_false (by omega)
          repeat' (first
              | (simp only [dl_len, dl_nth, hd, h0, h1, Int.toNat_natCast, hr, hy', Option.map_some, ↓rd_iD, onC_true, hg, hq, ↓wA, ↓wC, wB, frzBE, frzBS, Nat.reduceEqDiff, Nat.reduceAdd, Nat.reduceSub, reduceIte, reduceCtorEq, Nat.reduceBEq, Nat.reduceLT, decide_true])
              | (refine call_det (hc) rfl rfl ?_)
              | (refine callP_det (hc) rfl rfl ?_)
              | (refine onI_bare (by simp only [InR]; omega) ?_)
              | (refine execG_split (fun h => ?_) (fun h => ?_) <;> simp only [h])
              | (refine execC_split (fun h => ?_) (fun h => ?_) <;> (try simp only [h]))
              | (refine onPick_split (fun h => ?_) (fun h => ?_) <;> (try simp only [h])))
          all_goals refine next_range (weak_of _ rfl ⟨⟨rfl, rfl⟩, ⟨rfl, rfl⟩, ⟨rfl, rfl⟩, ⟨rfl, rfl⟩, trivial⟩) hlt ⟨hin', fun j hj => ?_⟩
          by_cases e : j = k
          · subst e; rw [gy, gr]; exact hl
          · exact hri j (by omega)
        · have hq : decide (r ≤ y) = true := decide_eq_true (by omega)
          have hres : (v.all (fun n => within n a b) && rises v) = false := by
            have : rises v = false := by
              cases h : rises v with
              | false => rfl
              | true =>
                have := (rises_iff v).1 h k hlt
                rw [gy, gr] at this; omega
            rw [this, Bool.and_false]
          repeat' (first
              | (simp only [dl_len, dl_nth, hd, h0, h1, Int.toNat_natCast, hr, hy', Option.map_some, ↓rd_iD, onC_true, hg, hq, ↓wA, ↓wC, wB, frzBE, frzBS, Nat.reduceEqDiff, Nat.reduceAdd, Nat.reduceSub, reduceIte, reduceCtorEq, Nat.reduceBEq, Nat.reduceLT, decide_true])
              | (refine call_det (hc) rfl rfl ?_)
              | (refine callP_det (hc) rfl rfl ?_)
              | (refine onI_bare (by simp only [InR]; omega) ?_)
              | (refine execG_split (fun h => ?_) (fun h => ?_) <;> simp only [h])
              | (refine execC_split (fun h => ?_) (fun h => ?_) <;> (try simp only [h]))
              | (refine onPick_split (fun h => ?_) (fun h => ?_) <;> (try simp only [h])))
          all_goals rw [hres]
  · rintro ⟨hin, hri⟩ hd
    have hres : (v.all (fun n => within n a b) && rises v) = true := by
      rw [Bool.and_eq_true]
      refine ⟨List.all_eq_true.2 fun n hn => ?_, (rises_iff v).2 fun j hj => hri j hj⟩
      obtain ⟨j, hj⟩ := List.getElem?_of_mem hn
      exact hin j n (lt_of_get hj) hj
    simp only [dl_len, hd, ↓wA, ↓wC, wB, frzBE, frzBS, Nat.reduceEqDiff, Nat.reduceAdd, Nat.reduceSub, reduceIte, reduceCtorEq, Nat.reduceBEq, Nat.reduceLT, decide_true]
    rw [hres]
end Go.Pe.Tryz

set_option maxRecDepth 100000
set_option maxHeartbeats 4000000
set_option linter.all false
namespace Go.Pe.Tryz
open Go.Proofs.Tryz
end Go.Pe.Tryz
