/- Records of a log: what a valid one is, walked; What a valid record is, and a record among the laws' helpers, walked; The law of IsValidRecord, joined; The lines of a log as plain lists of bytes: what a line is, how it is read, that there is one way alone; Numbers as decimal text: the library's, and the reference's own road to it; The law of EncodeRecord, walked; Logs read, as plain lists: cuts, parts, the records of a text; A text cut, split, verified, walked; The records at the start of a text: the program's road, the reference's; The reference's road through a text of records; What a valid log is; the laws of RecoverLog, IsValidLog, SyncLog; The law of AppendRecord; The law of LogRecords: marks on records; The law of CrashLog: what of a log survives; Logs in plain lists: what is appended, cut off, torn; What draws: a cursor over bytes; What draws: a number below a bound; What draws: once in n times; one of some numbers; What draws: texts, records of a log, logs -/
import Derived.Test.YtldadlpgliifdaaDoorPeD
import Derived.Test.YtldadlpgliifdaaDoorMc1
import Derived.Test.YtldadlpgliifdaaDoorMc2
import Derived.Test.YtldadlpgliifdaaDoorShelf
import Derived.Lib.ItoaNum
import Derived.Lib.IndexMore
import Derived.Lib.ItoaLen
set_option maxRecDepth 100000
set_option maxHeartbeats 4000000
set_option linter.all false
namespace Go.Pe.Tryd
open Go.Proofs.Tryd
def within (n a b : Int) : Bool := decide (a ≤ n) && decide (n ≤ b)
theorem within_fn (n a b : Int) : Fn prog 48 [.int .i64 n, .int .i64 a, .int .i64 b] (fun rs => rs = [.bool (within n a b)]) := by
  refine Fn_of' (fn := f48) (by exact func48) c48 r48 (n := 15) (by rfl) (rv := [.tmp 6]) (by rfl) (by simp) ?_
  unfold m48
  simp only [↓wA, ↓wC, wB, frzBE, frzBS, Nat.reduceEqDiff, Nat.reduceAdd, Nat.reduceSub, reduceIte, reduceCtorEq, Nat.reduceBEq, Nat.reduceLT, decide_true]
  refine execG_split (fun h => ?_) (fun h => ?_) <;> simp only [h, ↓wA, ↓wC, wB, frzBE, frzBS, Nat.reduceEqDiff, Nat.reduceAdd, Nat.reduceSub, reduceIte, reduceCtorEq, Nat.reduceBEq, Nat.reduceLT, decide_true]
  all_goals simp [within, h]
theorem l1In_fn (n a b : Int) : Fn prog 47 [.int .i64 n, .int .i64 a, .int .i64 b] (fun rs => rs = [.bool (within n a b)]) := by
  refine Fn_of' (fn := f47) (by exact func47) c47 r47 (n := 15) (by rfl) (rv := [.tmp 6]) (by rfl) (by simp) ?_
  unfold m47
  simp only [↓wA, ↓wC, wB, frzBE, frzBS, Nat.reduceEqDiff, Nat.reduceAdd, Nat.reduceSub, reduceIte, reduceCtorEq, Nat.reduceBEq, Nat.reduceLT, decide_true]
  refine execG_split (fun h => ?_) (fun h => ?_) <;> simp only [h, ↓wA, ↓wC, wB, frzBE, frzBS, Nat.reduceEqDiff, Nat.reduceAdd, Nat.reduceSub, reduceIte, reduceCtorEq, Nat.reduceBEq, Nat.reduceLT, decide_true]
  all_goals simp [within, h]
/-- a byte that may stand in a record. -/
def isP (b : UInt8) : Bool := within (b.toNat : Int) 32 126 && !decide ((b.toNat : Int) = 35)
def plain (s : List UInt8) : Bool := s.all isP
theorem plain_take {s : List UInt8} {i : Nat} {b : UInt8} (h : s[i]? = some b) (hp : plain (s.take i) = true) (hb : isP b = true) : plain (s.take (i + 1)) = true := by
  have hi := lt_of_get h
  rw [List.take_succ_eq_append_getElem hi]
  have : s[i] = b := by rw [List.getElem?_eq_getElem hi] at h; injection h
  unfold plain at *
  rw [List.all_append, hp, this]
  simp [hb]
theorem plain_no {s : List UInt8} {i : Nat} {b : UInt8} (h : s[i]? = some b) (hb : isP b = false) : plain s = false := by
  unfold plain
  rw [List.all_eq_false]
  exact ⟨b, List.mem_of_getElem? h, by simp [hb]⟩
theorem maxLen_eq : maxLen = 9223372036854775807 := rfl
theorem isPlain_fn (s : List UInt8) (hl : s.length ≤ maxLen) : Fn prog 59 [.str s] (fun rs => rs = [.bool (plain s)]) := by
  rw [maxLen_eq] at hl
  refine Fn_of' (fn := f59) (by exact func59) c59 r59 (n := 26) (by rfl) (rv := [.tmp 2]) (by rfl) (by simp) ?_
  unfold m59
  simp only [↓wA, ↓wC, wB, frzBE, frzBS, Nat.reduceEqDiff, Nat.reduceAdd, Nat.reduceSub, reduceIte, reduceCtorEq, Nat.reduceBEq, Nat.reduceLT, decide_true]
  refine exec_loop (fun i : Nat => ⟨[(0, .d (.str s)), (5, .d (.int .i64 s.length)), (6, .d (.int .i64 i))], []⟩)
    (fun i => i ≤ s.length ∧ plain (s.take i) = true) (fun i => s.length - i) 0 (weak_of [] rfl ⟨⟨rfl, rfl⟩, ⟨rfl, rfl⟩, ⟨rfl, rfl⟩, trivial⟩) ⟨Nat.zero_le _, by simp [plain]⟩ ?_
  rintro i ⟨hi, hp⟩
  by_cases hlt : i < s.length
  · obtain ⟨b, hb⟩ := get_lt hlt
    have hd : decide ((i : Int) < (s.length : Int)) = true := decide_eq_true (by omega)
    have h0 : (0 : Int) ≤ (i : Int) := by omega
    repeat' (first
        | (simp only [hd, h0, hb, Int.toNat_natCast, onC_true, ↓wA, ↓wC, wB, frzBE, frzBS, Nat.reduceEqDiff, Nat.reduceAdd, Nat.reduceSub, reduceIte, reduceCtorEq, Nat.reduceBEq, Nat.reduceLT, decide_true])
        | (refine onI_bare (by simp only [InR]; omega) ?_)
        | (refine execG_split (fun h => ?_) (fun h => ?_) <;> simp only [h])
        | (refine execC_split (fun h => ?_) (fun h => ?_) <;> (try simp only [h]))
        | (refine onPick_split (fun h => ?_) (fun h => ?_) <;> (try simp only [h])))
    all_goals first
      | (refine (congrArg (fun x => [D.bool x]) (plain_no hb ?_)).symm; simp_all [isP, within]; done)
      | (refine (congrArg (fun x => [D.bool x]) (plain_no hb ?_)).symm; simp_all [isP, within]; omega)
      | (exact ⟨i + 1, weak_of [] rfl ⟨⟨rfl, rfl⟩, ⟨rfl, rfl⟩, ⟨rfl, rfl⟩, trivial⟩, ⟨by omega, plain_take hb hp (by simp_all [isP, within] <;> omega)⟩, by omega⟩)
  · have hd : decide ((i : Int) < (s.length : Int)) = false := decide_eq_false (by omega)
    simp only [hd, ↓wA, ↓wC, wB, frzBE, frzBS, Nat.reduceEqDiff, Nat.reduceAdd, Nat.reduceSub, reduceIte, reduceCtorEq, Nat.reduceBEq, Nat.reduceLT, decide_true]
    rw [List.take_of_length_le (by omega)] at hp
    rw [hp]
theorem l27Plain_fn (s : List UInt8) (m : Int) (hl : s.length ≤ maxLen) : Fn prog 63 [.str s, .int .i64 m] (fun rs => rs = [.bool (plain s && decide ((s.length : Int) ≤ m))]) := by
  rw [maxLen_eq] at hl
  refine Fn_of' (fn := f63) (by exact func63) c63 r63 (n := 28) (by rfl) (rv := [.tmp 4]) (by rfl) (by simp) ?_
  unfold m63
  simp only [↓wA, ↓wC, wB, frzBE, frzBS, Nat.reduceEqDiff, Nat.reduceAdd, Nat.reduceSub, reduceIte, reduceCtorEq, Nat.reduceBEq, Nat.reduceLT, decide_true]
  refine exec_loop (fun i : Nat => ⟨[(0, .d (.str s)), (1, .d (.int .i64 m)), (5, .d (.int .i64 i))], []⟩)
    (fun i => i ≤ s.length ∧ plain (s.take i) = true) (fun i => s.length - i) 0 (weak_of [] rfl ⟨⟨rfl, rfl⟩, ⟨rfl, rfl⟩, ⟨rfl, rfl⟩, trivial⟩) ⟨Nat.zero_le _, by simp [plain]⟩ ?_
  rintro i ⟨hi, hp⟩
  by_cases hlt : i < s.length
  · obtain ⟨b, hb⟩ := get_lt hlt
    have hd : decide ((i : Int) < (s.length : Int)) = true := decide_eq_true (by omega)
    have h0 : (0 : Int) ≤ (i : Int) := by omega
    have hbl : (b.toNat : Int) < 256 := by have := b.toNat_lt; omega
    repeat' (first
        | (simp only [hd, h0, hb, Int.toNat_natCast, onC_true, ↓wA, ↓wC, wB, frzBE, frzBS, Nat.reduceEqDiff, Nat.reduceAdd, Nat.reduceSub, reduceIte, reduceCtorEq, Nat.reduceBEq, Nat.reduceLT, decide_true])
        | (refine call_det (l1In_fn _ _ _) rfl rfl ?_)
        | (refine callP_det (l1In_fn _ _ _) rfl rfl ?_)
        | (refine onI_bare (by simp only [InR]; omega) ?_)
        | (refine execG_split (fun h => ?_) (fun h => ?_) <;> simp only [h])
        | (refine execC_split (fun h => ?_) (fun h => ?_) <;> (try simp only [h]))
        | (refine onPick_split (fun h => ?_) (fun h => ?_) <;> (try simp only [h])))
    all_goals first
      | (rw [plain_no hb (by simp_all [isP])]; rfl)
      | (exact ⟨i + 1, weak_of [] rfl ⟨⟨rfl, rfl⟩, ⟨rfl, rfl⟩, ⟨rfl, rfl⟩, trivial⟩, ⟨by omega, plain_take hb hp (by simp_all [isP])⟩, by omega⟩)
  · have hd : decide ((i : Int) < (s.length : Int)) = false := decide_eq_false (by omega)
    simp only [hd, ↓wA, ↓wC, wB, frzBE, frzBS, Nat.reduceEqDiff, Nat.reduceAdd, Nat.reduceSub, reduceIte, reduceCtorEq, Nat.reduceBEq, Nat.reduceLT, decide_true]
    rw [List.take_of_length_le (by omega)] at hp
    rw [hp]
    simp
/-- does a byte stand in a text? -/
theorem l1Stands_fn (s : List UInt8) (c : UInt8) (hl : s.length ≤ maxLen) : Fn prog 64 [.str s, .int .u8 (c.toNat : Int)] (fun rs => rs = [.bool (s.contains c)]) := by
  rw [maxLen_eq] at hl
  refine Fn_of' (fn := f64) (by exact func64) c64 r64 (n := 17) (by rfl) (rv := [.tmp 4]) (by rfl) (by simp) ?_
  unfold m64
  simp only [↓wA, ↓wC, wB, frzBE, frzBS, Nat.reduceEqDiff, Nat.reduceAdd, Nat.reduceSub, reduceIte, reduceCtorEq, Nat.reduceBEq, Nat.reduceLT, decide_true]
  refine exec_loop (fun i : Nat => ⟨[(0, .d (.str s)), (1, .d (.int .u8 (c.toNat : Int))), (5, .d (.int .i64 i))], []⟩)
    (fun i => i ≤ s.length ∧ c ∉ s.take i) (fun i => s.length - i) 0 (weak_of [] rfl ⟨⟨rfl, rfl⟩, ⟨rfl, rfl⟩, ⟨rfl, rfl⟩, trivial⟩) ⟨Nat.zero_le _, by simp⟩ ?_
  rintro i ⟨hi, hp⟩
  by_cases hlt : i < s.length
  · obtain ⟨b, hb⟩ := get_lt hlt
    have hd : decide ((i : Int) < (s.length : Int)) = true := decide_eq_true (by omega)
    have h0 : (0 : Int) ≤ (i : Int) := by omega
    have hbc : decide ((b.toNat : Int) = (c.toNat : Int)) = decide (b = c) := by
      apply decide_eq_decide.2
      constructor
      · intro h; exact UInt8.toNat_inj.1 (by omega)
      · intro h; rw [h]
    by_cases hc : b = c
    · have hm : s.contains c = true := by rw [List.contains_iff_mem]; rw [← hc]; exact List.mem_of_getElem? hb
      simp only [hd, h0, hb, Int.toNat_natCast, onC_true, hbc, hc, hm, ↓wA, ↓wC, wB, frzBE, frzBS, Nat.reduceEqDiff, Nat.reduceAdd, Nat.reduceSub, reduceIte, reduceCtorEq, Nat.reduceBEq, Nat.reduceLT, decide_true]
    · simp only [hd, h0, hb, Int.toNat_natCast, onC_true, hbc, hc, ↓wA, ↓wC, wB, frzBE, frzBS, Nat.reduceEqDiff, Nat.reduceAdd, Nat.reduceSub, reduceIte, reduceCtorEq, Nat.reduceBEq, Nat.reduceLT, decide_true]
      refine onI_bare (by simp only [InR]; omega) ?_
      refine ⟨i + 1, weak_of [] rfl ⟨⟨rfl, rfl⟩, ⟨rfl, rfl⟩, ⟨rfl, rfl⟩, trivial⟩, ⟨by omega, ?_⟩, by omega⟩
      have hi := lt_of_get hb
      rw [List.take_succ_eq_append_getElem hi]
      have : s[i] = b := by rw [List.getElem?_eq_getElem hi] at hb; injection hb
      rw [this]
      simp only [List.mem_append, List.mem_singleton, not_or]
      exact ⟨hp, fun h => hc h.symm⟩
  · have hd : decide ((i : Int) < (s.length : Int)) = false := decide_eq_false (by omega)
    simp only [hd, ↓wA, ↓wC, wB, frzBE, frzBS, Nat.reduceEqDiff, Nat.reduceAdd, Nat.reduceSub, reduceIte, reduceCtorEq, Nat.reduceBEq, Nat.reduceLT, decide_true]
    rw [List.take_of_length_le (by omega)] at hp
    have : s.contains c = false := by
      cases h : s.contains c with
      | false => rfl
      | true => exact absurd (List.contains_iff_mem.1 h) hp
    rw [this]
/-- a record's two texts. -/
def recOK (c r : List UInt8) : Bool := within c.length 1 160 && decide ((r.length : Int) ≤ 200) && plain c && plain r && !c.contains 64
def recD (c r : List UInt8) : D := .st (.cons (.str c) (.cons (.str r) .nil))
theorem l27Good_fn (c r : List UInt8) (hc : c.length ≤ maxLen) (hr : r.length ≤ maxLen) : Fn prog 45 [recD c r] (fun rs => rs = [.bool (recOK c r)]) := by
  have hne : (!decide (c = ([] : List UInt8))) = decide (1 ≤ (c.length : Int)) := by
    cases c with
    | nil => rfl
    | cons a c => simp; omega
  have h64 : (64 : Int) = ((64 : UInt8).toNat : Int) := rfl
  refine Fn_of' (fn := f45) (by exact func45) c45 r45 (n := 22) (by rfl) (rv := [.tmp 2]) (by rfl) (by simp) ?_
  unfold m45
  simp only [recD]
  repeat' (first
      | (simp only [hne, ↓wA, ↓wC, wB, frzBE, frzBS, Nat.reduceEqDiff, Nat.reduceAdd, Nat.reduceSub, reduceIte, reduceCtorEq, Nat.reduceBEq, Nat.reduceLT, decide_true])
      | (refine call_det (l27Plain_fn _ _ hc) rfl rfl ?_)
      | (refine callP_det (l27Plain_fn _ _ hc) rfl rfl ?_)
      | (refine call_det (l27Plain_fn _ _ hr) rfl rfl ?_)
      | (refine callP_det (l27Plain_fn _ _ hr) rfl rfl ?_)
      | (refine call_det (l1Stands_fn c 64 hc) rfl rfl ?_)
      | (refine callP_det (l1Stands_fn c 64 hc) rfl rfl ?_)
      | (refine execG_split (fun h => ?_) (fun h => ?_) <;> simp only [h])
      | (refine execC_split (fun h => ?_) (fun h => ?_) <;> (try simp only [h]))
      | (refine onPick_split (fun h => ?_) (fun h => ?_) <;> (try simp only [h])))
  all_goals (cases hpc : plain c <;> cases hpr : plain r <;> simp_all [recOK, within] <;> omega)
end Go.Pe.Tryd

set_option maxRecDepth 100000
set_option maxHeartbeats 4000000
set_option linter.all false
namespace Go.Pe.Tryd
open Go.Proofs.Tryd
theorem indexByte_has : ∀ (s : List UInt8) (c : UInt8), decide (0 ≤ Go.Lib.indexByte s c) = s.contains c
  | [], c => by simp [Go.Lib.indexByte]
  | b :: s, c => by
    have ih := indexByte_has s c
    have hge := Go.Lib.indexByte_ge s c
    unfold Go.Lib.indexByte
    by_cases h : b = c
    · simp [h]
    · have h1 : (b == c) = false := by simpa using h
      have h2 : (b :: s).contains c = s.contains c := by simp [List.contains_cons, h, eq_comm]
      simp only [h1, Bool.false_eq_true, if_false, h2]
      rw [← ih]
      split
      · rename_i h3
        have : Go.Lib.indexByte s c = -1 := by simpa using h3
        simp [this]
      · rename_i h3
        have : Go.Lib.indexByte s c ≠ -1 := by simpa using h3
        apply decide_eq_decide.2
        omega
theorem contains_fn (s : List UInt8) (c : UInt8) : Fn prog 60 [.str s, .str [c]] (fun rs => rs = [.bool (s.contains c)]) :=
  Fn_lib rfl rfl fun w _ => (Go.Proofs.Tryd.strings_Contains_one ⟨s.toArray⟩ c w).mono (by
    rintro e w' ⟨rfl, rfl⟩
    refine ⟨?_, Ext.refl _⟩
    rw [← indexByte_has]
    simp [retV])
theorem isValidRecord_fn (c r : List UInt8) (hc : c.length ≤ maxLen) (hr : r.length ≤ maxLen) : Fn prog 37 [recD c r] (fun rs => rs = [.bool (recOK c r)]) := by
  refine Fn_of' (fn := f37) (by exact func37) c37 r37 (n := 29) (by rfl) (rv := [.tmp 2]) (by rfl) (by simp) ?_
  unfold m37
  simp only [recD]
  repeat' (first
      | (simp only [↓wA, ↓wC, wB, frzBE, frzBS, Nat.reduceEqDiff, Nat.reduceAdd, Nat.reduceSub, reduceIte, reduceCtorEq, Nat.reduceBEq, Nat.reduceLT, decide_true])
      | (refine call_det (within_fn _ _ _) rfl rfl ?_)
      | (refine callP_det (within_fn _ _ _) rfl rfl ?_)
      | (refine call_det (isPlain_fn _ hc) rfl rfl ?_)
      | (refine callP_det (isPlain_fn _ hc) rfl rfl ?_)
      | (refine call_det (isPlain_fn _ hr) rfl rfl ?_)
      | (refine callP_det (isPlain_fn _ hr) rfl rfl ?_)
      | (refine call_det (contains_fn c 64) rfl rfl ?_)
      | (refine callP_det (contains_fn c 64) rfl rfl ?_)
      | (refine execG_split (fun h => ?_) (fun h => ?_) <;> simp only [h])
      | (refine execC_split (fun h => ?_) (fun h => ?_) <;> (try simp only [h]))
      | (refine onPick_split (fun h => ?_) (fun h => ?_) <;> (try simp only [h])))
  all_goals (cases hpc : plain c <;> cases hpr : plain r <;> simp_all [recOK, within] <;> omega)
end Go.Pe.Tryd

set_option maxRecDepth 100000
set_option maxHeartbeats 4000000
set_option linter.all false
namespace Go.Pe.Tryd
open Go.Proofs.Tryd
end Go.Pe.Tryd

set_option maxRecDepth 100000
set_option maxHeartbeats 4000000
set_option linter.all false
namespace Go.Pe.Tryd
/-- a byte of a numeral. -/
def isDig (b : UInt8) : Prop := b = 45 ∨ (48 ≤ b.toNat ∧ b.toNat ≤ 57)
theorem decDigits_dig : ∀ (u : Nat), ∀ b ∈ Lib.decDigits u, 48 ≤ b.toNat ∧ b.toNat ≤ 57 := by
  intro u
  induction u using Nat.strongRecOn with
  | _ u ih =>
    intro b hb
    rw [Lib.decDigits] at hb
    have one : ∀ d : Nat, d < 10 → (UInt8.ofNat (48 + d)).toNat = 48 + d := fun d hd => by
      rw [UInt8.toNat_ofNat']; omega
    by_cases h : u < 10
    · rw [dif_pos h] at hb
      simp only [List.mem_singleton] at hb
      rw [hb, one u h]; omega
    · rw [dif_neg h] at hb
      rcases List.mem_append.1 hb with hb | hb
      · exact ih (u / 10) (by omega) b hb
      · simp only [List.mem_singleton] at hb
        rw [hb, one (u % 10) (by omega)]; omega
theorem itoa_dig (n : Int) : ∀ b ∈ Lib.itoa n, isDig b := by
  intro b hb
  unfold Lib.itoa at hb
  split at hb
  · rcases List.mem_cons.1 hb with hb | hb
    · exact .inl hb
    · exact .inr (decDigits_dig _ b hb)
  · exact .inr (decDigits_dig _ b hb)
theorem itoa_not (n : Int) (c : UInt8) (hc : c ≠ 45) (h : c.toNat < 48 ∨ 57 < c.toNat) : c ∉ Lib.itoa n := fun hm => by
  rcases itoa_dig n c hm with h1 | h1
  · exact hc h1
  · omega
theorem decDigits_ne (u : Nat) : Lib.decDigits u ≠ [] := by
  rw [Lib.decDigits]
  by_cases h : u < 10
  · rw [dif_pos h]; simp
  · rw [dif_neg h]; simp
/-- what stands ahead of a byte, and behind it. -/
def before (x : UInt8) (s : List UInt8) : List UInt8 := s.takeWhile (· != x)
def after (x : UInt8) (s : List UInt8) : List UInt8 := (s.dropWhile (· != x)).drop 1
theorem before_app {x : UInt8} : ∀ {s t : List UInt8}, x ∉ s → before x (s ++ x :: t) = s
  | [], t, _ => by simp [before]
  | b :: s, t, h => by
    simp only [List.mem_cons, not_or] at h
    have hb : (b != x) = true := by simpa [bne_iff_ne] using fun e => h.1 e.symm
    have := before_app (t := t) h.2
    unfold before at *
    simp only [List.cons_append, List.takeWhile_cons, hb, if_true, this]
theorem after_app {x : UInt8} : ∀ {s t : List UInt8}, x ∉ s → after x (s ++ x :: t) = t
  | [], t, _ => by simp [after]
  | b :: s, t, h => by
    simp only [List.mem_cons, not_or] at h
    have hb : (b != x) = true := by simpa [bne_iff_ne] using fun e => h.1 e.symm
    have := after_app (t := t) h.2
    unfold after at *
    simp only [List.cons_append, List.dropWhile_cons, hb, if_true, this]
theorem before_none {x : UInt8} : ∀ {s : List UInt8}, x ∉ s → before x s = s
  | [], _ => rfl
  | b :: s, h => by
    simp only [List.mem_cons, not_or] at h
    have hb : (b != x) = true := by simpa [bne_iff_ne] using fun e => h.1 e.symm
    have := before_none h.2
    unfold before at *
    simp only [List.takeWhile_cons, hb, if_true, this]
theorem after_none {x : UInt8} : ∀ {s : List UInt8}, x ∉ s → after x s = []
  | [], _ => rfl
  | b :: s, h => by
    simp only [List.mem_cons, not_or] at h
    have hb : (b != x) = true := by simpa [bne_iff_ne] using fun e => h.1 e.symm
    have := after_none h.2
    unfold after at *
    simp only [List.dropWhile_cons, hb, if_true, this]
theorem split_at {x : UInt8} : ∀ {s : List UInt8}, x ∈ s → s = before x s ++ x :: after x s
  | b :: s, h => by
    by_cases e : b = x
    · subst e; simp [before, after]
    · have hb : (b != x) = true := by simpa [bne_iff_ne] using e
      have hm : x ∈ s := by
        rcases List.mem_cons.1 h with h | h
        · exact absurd h.symm e
        · exact h
      have ih := split_at hm
      unfold before after at *
      simp only [List.takeWhile_cons, List.dropWhile_cons, hb, if_true, List.cons_append]
      rw [← ih]
theorem before_not (x : UInt8) : ∀ (s : List UInt8), x ∉ before x s
  | [] => by simp [before]
  | b :: s => by
    by_cases e : b = x
    · subst e; simp [before]
    · have hb : (b != x) = true := by simpa [bne_iff_ne] using e
      have ih := before_not x s
      unfold before at *
      simp only [List.takeWhile_cons, hb, if_true, List.mem_cons, not_or]
      exact ⟨fun h => e h.symm, ih⟩
theorem before_le (x : UInt8) (s : List UInt8) : (before x s).length ≤ s.length := (List.takeWhile_sublist _).length_le
theorem after_len {x : UInt8} {s : List UInt8} (h : x ∈ s) : (before x s).length + 1 + (after x s).length = s.length := by
  have := congrArg List.length (split_at h)
  simp at this; omega
theorem before_take {x : UInt8} (s : List UInt8) : before x s = s.take (before x s).length := by
  by_cases h : x ∈ s
  · have h1 : (before x s ++ x :: after x s).take (before x s).length = before x s := List.take_left' rfl
    rw [← split_at h] at h1
    exact h1.symm
  · rw [before_none h, List.take_length]
theorem after_drop {x : UInt8} {s : List UInt8} (h : x ∈ s) : after x s = s.drop ((before x s).length + 1) := by
  have h1 : (before x s ++ x :: after x s).drop ((before x s).length + 1) = after x s := by
    rw [← List.drop_drop, List.drop_left' rfl]; rfl
  rw [← split_at h] at h1
  exact h1.symm
/-- the checksum. -/
def ckf (h : Int) (b : UInt8) : Int := (41 * h + (b.toNat : Int) + 1) % 999979
def ck (s : List UInt8) : Int := s.foldl ckf 7
theorem ck_bd (s : List UInt8) : 0 ≤ ck s ∧ ck s < 999979 := by
  unfold ck
  have : ∀ (s : List UInt8) (h : Int), 0 ≤ h ∧ h < 999979 → 0 ≤ s.foldl ckf h ∧ s.foldl ckf h < 999979 := by
    intro s
    induction s with
    | nil => intro h hh; exact hh
    | cons b s ih =>
      intro h hh
      refine ih _ ?_
      unfold ckf
      omega
  exact this s 7 (by omega)
def sealL (s : List UInt8) : List UInt8 := s ++ 35 :: Lib.itoa (ck s)
def body (k : Int) (c r : List UInt8) : List UInt8 := Lib.itoa k ++ 32 :: (c ++ 64 :: r)
def line (k : Int) (c r : List UInt8) : List UInt8 := sealL (body k c r)
theorem plain_not {s : List UInt8} (h : plain s = true) {x : UInt8} (hx : isP x = false) : x ∉ s := fun hm => by
  have := (List.all_eq_true.1 h) x hm
  rw [hx] at this; cases this
theorem rec_parts {c r : List UInt8} (h : recOK c r = true) : 1 ≤ c.length ∧ c.length ≤ 160 ∧ r.length ≤ 200 ∧ plain c = true ∧ plain r = true ∧ (64 : UInt8) ∉ c := by
  simp only [recOK, within, Bool.and_eq_true, decide_eq_true_eq, Bool.not_eq_true'] at h
  obtain ⟨⟨⟨⟨⟨h1, h2⟩, h3⟩, h4⟩, h5⟩, h6⟩ := h
  refine ⟨by omega, by omega, by omega, h4, h5, fun hm => ?_⟩
  rw [List.contains_iff_mem.2 hm] at h6; cases h6
theorem body_no35 {k : Int} {c r : List UInt8} (h : recOK c r = true) : (35 : UInt8) ∉ body k c r := by
  obtain ⟨_, _, _, hc, hr, _⟩ := rec_parts h
  unfold body
  simp only [List.mem_append, List.mem_cons, not_or]
  exact ⟨itoa_not k 35 (by decide) (by decide), by decide, plain_not hc (by decide), by decide, plain_not hr (by decide)⟩
theorem body_no10 {k : Int} {c r : List UInt8} (h : recOK c r = true) : (10 : UInt8) ∉ body k c r := by
  obtain ⟨_, _, _, hc, hr, _⟩ := rec_parts h
  unfold body
  simp only [List.mem_append, List.mem_cons, not_or]
  exact ⟨itoa_not k 10 (by decide) (by decide), by decide, plain_not hc (by decide), by decide, plain_not hr (by decide)⟩
theorem line_no10 {k : Int} {c r : List UInt8} (h : recOK c r = true) : (10 : UInt8) ∉ line k c r := by
  unfold line sealL
  simp only [List.mem_append, List.mem_cons, not_or]
  exact ⟨body_no10 h, by decide, itoa_not _ 10 (by decide) (by decide)⟩
/-- a line is read as a record with the number k. -/
def rd (k : Int) (L : List UInt8) : Option (List UInt8 × List UInt8) :=
  let rest := (before 35 L).drop ((Lib.itoa k).length + 1)
  if recOK (before 64 rest) (after 64 rest) = true ∧ line k (before 64 rest) (after 64 rest) = L then some (before 64 rest, after 64 rest) else none
theorem line_before {k : Int} {c r : List UInt8} (h : recOK c r = true) : before 35 (line k c r) = body k c r := before_app (body_no35 h)
theorem body_rest {k : Int} {c r : List UInt8} : (body k c r).drop ((Lib.itoa k).length + 1) = c ++ 64 :: r := by
  unfold body
  rw [← List.drop_drop, List.drop_left' rfl]; rfl
theorem rd_iff {k : Int} {L c r : List UInt8} : rd k L = some (c, r) ↔ recOK c r = true ∧ line k c r = L := by
  constructor
  · intro h
    simp only [rd] at h
    split at h
    · rename_i h1
      injection h with h
      injection h with h2 h3
      subst h2 h3
      exact h1
    · cases h
  · rintro ⟨h1, rfl⟩
    have h64 := (rec_parts h1).2.2.2.2.2
    simp only [rd, line_before h1, body_rest, before_app h64, after_app h64]
    rw [if_pos ⟨h1, trivial⟩]
/-- the records at the start of a text, and how many bytes they have. -/
def opens : Nat → Int → List UInt8 → List (List UInt8 × List UInt8) × Nat
  | 0, _, _ => ([], 0)
  | n + 1, k, s => if (10 : UInt8) ∈ s then
      match rd k (before 10 s) with
      | some e => (e :: (opens n (k + 1) (after 10 s)).1, (before 10 s).length + 1 + (opens n (k + 1) (after 10 s)).2)
      | none => ([], 0)
    else ([], 0)
theorem opens_le : ∀ (n : Nat) (k : Int) (s : List UInt8), (opens n k s).2 ≤ s.length ∧ (opens n k s).1.length ≤ n
  | 0, _, _ => by simp [opens]
  | n + 1, k, s => by
    simp only [opens]
    split
    · rename_i h
      split
      · have ih := opens_le n (k + 1) (after 10 s)
        have := after_len h
        simp only [List.length_cons]
        omega
      · simp
    · simp
end Go.Pe.Tryd

set_option maxRecDepth 100000
set_option maxHeartbeats 4000000
set_option linter.all false
namespace Go.Pe.Tryd
open Go.Proofs.Tryd Go.Sort
theorem Ext.grow {w : World} (k : Nat) (os : Array Obj) : Ext w (Go.Sort.grow (w.drewN k) os) := by
  refine ⟨rfl, rfl, rfl, ?_, ?_⟩
  · simp [Go.Sort.grow, World.drewN]
  · intro b hb
    simp only [Go.Sort.grow]
    exact Array.getElem?_append_left (xs := w.heap) (ys := os) hb
theorem itoa_fn (n : Int) (h : InR .i64 n) : Fn prog 69 [.int .i64 n] (fun rs => rs = [.str (Lib.itoa n)]) :=
  Fn_lib rfl rfl fun w hF => (Go.Proofs.Tryd.strconv_Itoa n (by simp only [InR] at h; omega) (by simp only [InR] at h; omega) w (tabOf hF)).mono (by
    rintro e w' ⟨rfl, k, os, rfl⟩
    exact ⟨rfl, Ext.grow k os⟩)
theorem decimal_fn (n : Int) (h : InR .i64 n) : Fn prog 52 [.int .i64 n] (fun rs => rs = [.str (Lib.itoa n)]) := by
  refine Fn_of' (fn := f52) (by exact func52) c52 r52 (n := 5) (by rfl) (rv := [.tmp 2]) (by rfl) (by simp) ?_
  unfold m52
  repeat' (first
      | (simp only [↓wA, ↓wC, wB, frzBE, frzBS, Nat.reduceEqDiff, Nat.reduceAdd, Nat.reduceSub, reduceIte, reduceCtorEq, Nat.reduceBEq, Nat.reduceLT, decide_true])
      | (refine call_det (itoa_fn n h) rfl rfl ?_)
      | (refine callP_det (itoa_fn n h) rfl rfl ?_)
      | (refine execG_split (fun h => ?_) (fun h => ?_) <;> simp only [h])
      | (refine execC_split (fun h => ?_) (fun h => ?_) <;> (try simp only [h]))
      | (refine onPick_split (fun h => ?_) (fun h => ?_) <;> (try simp only [h])))
/-- the digit of a number below ten, cut from the ten digits. -/
theorem digit_cut : ∀ d : Fin 10, ((([48, 49, 50, 51, 52, 53, 54, 55, 56, 57] : List UInt8).take (d.val + 1)).drop d.val) = [UInt8.ofNat (48 + d.val)] := by decide
/-- numbers as text, by the reference's own road. -/
theorem decDigits_small {u : Nat} (h : u < 10) : Lib.decDigits u = [UInt8.ofNat (48 + u)] := by
  rw [Lib.decDigits, dif_pos h]
theorem decDigits_more {u : Nat} (h : ¬ u < 10) : Lib.decDigits u = Lib.decDigits (u / 10) ++ [UInt8.ofNat (48 + u % 10)] := by
  rw [Lib.decDigits, dif_neg h]
theorem cut_digit (d : Nat) (h : d < 10) : ((([48, 49, 50, 51, 52, 53, 54, 55, 56, 57] : List UInt8).take (d + 1)).drop d) = [UInt8.ofNat (48 + d)] := digit_cut ⟨d, h⟩
theorem itoa_nat (u : Nat) : Lib.itoa (u : Int) = Lib.decDigits u := by
  unfold Lib.itoa
  rw [if_neg (by omega)]
  simp
theorem decDigits_le (u : Nat) (h : u ≤ 9223372036854775807) : (Lib.decDigits u).length ≤ 21 := by
  rw [← itoa_nat]
  exact Lib.itoa_length_le (u : Int) (by omega) (by omega)
theorem itoa_le (n : Int) (h : InR .i64 n) : (Lib.itoa n).length ≤ 21 := by
  simp only [InR] at h
  exact Lib.itoa_length_le n (by omega) (by omega)
theorem l1Num_nat : ∀ (u : Nat), u ≤ 9223372036854775807 → Fn prog 66 [.int .i64 (u : Int)] (fun rs => rs = [.str (Lib.decDigits u)]) := by
  intro u
  induction u using Nat.strongRecOn with
  | _ u ih =>
    intro hu
    have h0 : decide ((u : Int) < 0) = false := decide_eq_false (by omega)
    refine Fn_of' (fn := f66) (by exact func66) c66 r66 (n := 25) (by rfl) (rv := [.tmp 2]) (by rfl) (by simp) ?_
    unfold m66
    try simp only [h0, ↓wA, ↓wC, wB, frzBE, frzBS, Nat.reduceEqDiff, Nat.reduceAdd, Nat.reduceSub, reduceIte, reduceCtorEq, Nat.reduceBEq, Nat.reduceLT, decide_true]
    by_cases h : u < 10
    · have hd : decide ((u : Int) < 10) = true := decide_eq_true (by omega)
      have hp : (0 : Int) ≤ (u : Int) := by omega
      try simp only [hd, ↓wA, ↓wC, wB, frzBE, frzBS, Nat.reduceEqDiff, Nat.reduceAdd, Nat.reduceSub, reduceIte, reduceCtorEq, Nat.reduceBEq, Nat.reduceLT, decide_true]
      refine onI_bare (by simp only [InR]; omega) ?_
      try simp only [hd, hp, ↓wA, ↓wC, wB, frzBE, frzBS, Nat.reduceEqDiff, Nat.reduceAdd, Nat.reduceSub, reduceIte, reduceCtorEq, Nat.reduceBEq, Nat.reduceLT, decide_true]
      refine onC_i ⟨by omega, by omega⟩ ?_
      rw [show ((u : Int) + 1).toNat = u + 1 by omega, Int.toNat_natCast, cut_digit u h, decDigits_small h]
    · have hd : decide ((u : Int) < 10) = false := decide_eq_false (by omega)
      have hq : ((u : Int)).tdiv 10 = ((u / 10 : Nat) : Int) := by rw [Int.tdiv_eq_ediv_of_nonneg (by omega)]; omega
      have hr : ((u : Int)).tmod 10 = ((u % 10 : Nat) : Int) := by rw [Int.tmod_eq_emod_of_nonneg (by omega)]; omega
      try simp only [hd, hq, hr, ↓wA, ↓wC, wB, frzBE, frzBS, Nat.reduceEqDiff, Nat.reduceAdd, Nat.reduceSub, reduceIte, reduceCtorEq, Nat.reduceBEq, Nat.reduceLT, decide_true]
      refine onC_i (by decide) ?_
      refine onI_bare (by simp only [InR]; omega) ?_
      refine callP_det (ih (u / 10) (by omega) (by omega)) rfl rfl ?_
      try simp only [hr, ↓wA, ↓wC, wB, frzBE, frzBS, Nat.reduceEqDiff, Nat.reduceAdd, Nat.reduceSub, reduceIte, reduceCtorEq, Nat.reduceBEq, Nat.reduceLT, decide_true]
      refine onC_i (by decide) ?_
      refine onC_i (by decide) ?_
      refine onI_bare (by simp only [InR]; omega) ?_
      have hp : (0 : Int) ≤ ((u % 10 : Nat) : Int) := by omega
      try simp only [hp, ↓wA, ↓wC, wB, frzBE, frzBS, Nat.reduceEqDiff, Nat.reduceAdd, Nat.reduceSub, reduceIte, reduceCtorEq, Nat.reduceBEq, Nat.reduceLT, decide_true]
      refine onC_i ⟨by omega, by omega⟩ ?_
      rw [show (((u % 10 : Nat) : Int) + 1).toNat = u % 10 + 1 by omega, Int.toNat_natCast, cut_digit (u % 10) (by omega)]
      try simp only [↓wA, ↓wC, wB, frzBE, frzBS, Nat.reduceEqDiff, Nat.reduceAdd, Nat.reduceSub, reduceIte, reduceCtorEq, Nat.reduceBEq, Nat.reduceLT, decide_true]
      refine onC_i (by have := decDigits_le (u / 10) (by omega); omega) ?_
      rw [decDigits_more h]
theorem l1Num_fn (n : Int) (h0 : 0 ≤ n) (h : InR .i64 n) : Fn prog 66 [.int .i64 n] (fun rs => rs = [.str (Lib.itoa n)]) := by
  obtain ⟨u, rfl⟩ := Int.eq_ofNat_of_zero_le h0
  rw [itoa_nat]
  exact l1Num_nat u (by simp only [InR] at h; omega)
end Go.Pe.Tryd

set_option maxRecDepth 100000
set_option maxHeartbeats 4000000
set_option linter.all false
namespace Go.Pe.Tryd
open Go.Proofs.Tryd Go.Sort
theorem checksum_fn (s : List UInt8) (hl : s.length ≤ maxLen) : Fn prog 68 [.str s] (fun rs => rs = [.int .i64 (ck s)]) := by
  rw [maxLen_eq] at hl
  refine Fn_of' (fn := f68) (by exact func68) c68 r68 (n := 21) (by rfl) (rv := [.tmp 2]) (by rfl) (by simp) ?_
  unfold m68
  simp only [↓wA, ↓wC, wB, frzBE, frzBS, Nat.reduceEqDiff, Nat.reduceAdd, Nat.reduceSub, reduceIte, reduceCtorEq, Nat.reduceBEq, Nat.reduceLT, decide_true]
  refine exec_loop (fun i : Nat => ⟨[(0, .d (.str s)), (3, .d (.int .i64 (ck (s.take i)))), (6, .d (.int .i64 s.length)), (7, .d (.int .i64 i))], []⟩)
    (fun i => i ≤ s.length) (fun i => s.length - i) 0 (weak_of [] rfl ⟨⟨rfl, rfl⟩, ⟨rfl, rfl⟩, ⟨rfl, rfl⟩, ⟨rfl, rfl⟩, trivial⟩) (Nat.zero_le _) ?_
  rintro i hi
  by_cases hlt : i < s.length
  · obtain ⟨b, hb⟩ := get_lt hlt
    have hd : decide ((i : Int) < (s.length : Int)) = true := decide_eq_true (by omega)
    have h0 : (0 : Int) ≤ (i : Int) := by omega
    have hbl : (b.toNat : Int) < 256 := by have := b.toNat_lt; omega
    have hck := ck_bd (s.take i)
    have hne : decide ((999979 : Int) = 0) = false := by decide
    have hstep : ck (s.take (i + 1)) = (41 * ck (s.take i) + b.toNat + 1) % 999979 := by
      have hi := lt_of_get hb
      rw [List.take_succ_eq_append_getElem hi]
      have : s[i] = b := by rw [List.getElem?_eq_getElem hi] at hb; injection hb
      unfold ck
      rw [List.foldl_append, this]; rfl
    have htm : (41 * ck (s.take i) + b.toNat + 1).tmod 999979 = ck (s.take (i + 1)) := by rw [hstep, Int.tmod_eq_emod_of_nonneg (by omega)]
    have h99 : (999979 : Int) ≠ 0 := by decide
    repeat' (first
        | (simp only [hd, h0, hb, Int.toNat_natCast, onC_true, htm, h99, ne_eq, not_false_eq_true, ↓wA, ↓wC, wB, frzBE, frzBS, Nat.reduceEqDiff, Nat.reduceAdd, Nat.reduceSub, reduceIte, reduceCtorEq, Nat.reduceBEq, Nat.reduceLT, decide_true])
        | (refine onC_i (by decide) ?_)
        | (refine onI_bare (by simp only [InR]; omega) ?_)
        | (refine execG_split (fun h => ?_) (fun h => ?_) <;> simp only [h])
        | (refine execC_split (fun h => ?_) (fun h => ?_) <;> (try simp only [h]))
        | (refine onPick_split (fun h => ?_) (fun h => ?_) <;> (try simp only [h])))
    all_goals exact ⟨i + 1, weak_of [] rfl ⟨⟨rfl, rfl⟩, ⟨rfl, rfl⟩, ⟨rfl, rfl⟩, ⟨rfl, rfl⟩, trivial⟩, by omega, by omega⟩
  · have hd : decide ((i : Int) < (s.length : Int)) = false := decide_eq_false (by omega)
    simp only [hd, ↓wA, ↓wC, wB, frzBE, frzBS, Nat.reduceEqDiff, Nat.reduceAdd, Nat.reduceSub, reduceIte, reduceCtorEq, Nat.reduceBEq, Nat.reduceLT, decide_true]
    rw [List.take_of_length_le (by omega)]
theorem l1Sum_fn (s : List UInt8) (hl : s.length ≤ maxLen) : Fn prog 74 [.str s] (fun rs => rs = [.int .i64 (ck s)]) := by
  rw [maxLen_eq] at hl
  refine Fn_of' (fn := f74) (by exact func74) c74 r74 (n := 21) (by rfl) (rv := [.tmp 2]) (by rfl) (by simp) ?_
  unfold m74
  simp only [↓wA, ↓wC, wB, frzBE, frzBS, Nat.reduceEqDiff, Nat.reduceAdd, Nat.reduceSub, reduceIte, reduceCtorEq, Nat.reduceBEq, Nat.reduceLT, decide_true]
  refine exec_loop (fun i : Nat => ⟨[(0, .d (.str s)), (3, .d (.int .i64 (ck (s.take i)))), (4, .d (.int .i64 i))], []⟩)
    (fun i => i ≤ s.length) (fun i => s.length - i) 0 (weak_of [] rfl ⟨⟨rfl, rfl⟩, ⟨rfl, rfl⟩, ⟨rfl, rfl⟩, trivial⟩) (Nat.zero_le _) ?_
  rintro i hi
  by_cases hlt : i < s.length
  · obtain ⟨b, hb⟩ := get_lt hlt
    have hd : decide ((i : Int) < (s.length : Int)) = true := decide_eq_true (by omega)
    have h0 : (0 : Int) ≤ (i : Int) := by omega
    have hbl : (b.toNat : Int) < 256 := by have := b.toNat_lt; omega
    have hck := ck_bd (s.take i)
    have hstep : ck (s.take (i + 1)) = (41 * ck (s.take i) + b.toNat + 1) % 999979 := by
      have hi := lt_of_get hb
      rw [List.take_succ_eq_append_getElem hi]
      have : s[i] = b := by rw [List.getElem?_eq_getElem hi] at hb; injection hb
      unfold ck
      rw [List.foldl_append, this]; rfl
    have htm : (41 * ck (s.take i) + b.toNat + 1).tmod 999979 = ck (s.take (i + 1)) := by rw [hstep, Int.tmod_eq_emod_of_nonneg (by omega)]
    have h99 : (999979 : Int) ≠ 0 := by decide
    repeat' (first
        | (simp only [hd, h0, hb, Int.toNat_natCast, onC_true, htm, h99, ne_eq, not_false_eq_true, ↓wA, ↓wC, wB, frzBE, frzBS, Nat.reduceEqDiff, Nat.reduceAdd, Nat.reduceSub, reduceIte, reduceCtorEq, Nat.reduceBEq, Nat.reduceLT, decide_true])
        | (refine onC_i (by decide) ?_)
        | (refine onI_bare (by simp only [InR]; omega) ?_)
        | (refine execG_split (fun h => ?_) (fun h => ?_) <;> simp only [h])
        | (refine execC_split (fun h => ?_) (fun h => ?_) <;> (try simp only [h]))
        | (refine onPick_split (fun h => ?_) (fun h => ?_) <;> (try simp only [h])))
    all_goals exact ⟨i + 1, weak_of [] rfl ⟨⟨rfl, rfl⟩, ⟨rfl, rfl⟩, ⟨rfl, rfl⟩, trivial⟩, by omega, by omega⟩
  · have hd : decide ((i : Int) < (s.length : Int)) = false := decide_eq_false (by omega)
    simp only [hd, ↓wA, ↓wC, wB, frzBE, frzBS, Nat.reduceEqDiff, Nat.reduceAdd, Nat.reduceSub, reduceIte, reduceCtorEq, Nat.reduceBEq, Nat.reduceLT, decide_true]
    rw [List.take_of_length_le (by omega)]
theorem ck_InR (s : List UInt8) : InR .i64 (ck s) := by
  have := ck_bd s
  simp only [InR]; omega
theorem sealL_eq (s : List UInt8) : s ++ [35] ++ Lib.itoa (ck s) = sealL s := by simp [sealL]
theorem l1Seal_fn (s : List UInt8) (hl : s.length ≤ 4000) : Fn prog 65 [.str s] (fun rs => rs = [.str (sealL s)]) := by
  have hm : s.length ≤ maxLen := by rw [maxLen_eq]; omega
  have hi := itoa_le (ck s) (ck_InR s)
  refine Fn_of' (fn := f65) (by exact func65) c65 r65 (n := 9) (by rfl) (rv := [.tmp 2]) (by rfl) (by simp) ?_
  unfold m65
  repeat' (first
      | (simp only [↓wA, ↓wC, wB, frzBE, frzBS, Nat.reduceEqDiff, Nat.reduceAdd, Nat.reduceSub, reduceIte, reduceCtorEq, Nat.reduceBEq, Nat.reduceLT, decide_true])
      | (refine call_det (l1Sum_fn s hm) rfl rfl ?_)
      | (refine callP_det (l1Sum_fn s hm) rfl rfl ?_)
      | (refine call_det (l1Num_fn (ck s) (ck_bd s).1 (ck_InR s)) rfl rfl ?_)
      | (refine callP_det (l1Num_fn (ck s) (ck_bd s).1 (ck_InR s)) rfl rfl ?_)
      | (refine onC_i (by (try simp only [List.length_append, List.length_cons, List.length_nil]); omega) ?_)
      | (refine execG_split (fun h => ?_) (fun h => ?_) <;> simp only [h])
      | (refine execC_split (fun h => ?_) (fun h => ?_) <;> (try simp only [h]))
      | (refine onPick_split (fun h => ?_) (fun h => ?_) <;> (try simp only [h])))
  all_goals simp [sealL]
theorem appendChecksum_fn (s : List UInt8) (hl : s.length ≤ 3000) (hs : (35 : UInt8) ∉ s) : Fn prog 51 [.str s] (fun rs => rs = [.str (sealL s), .bool true]) := by
  have hm : s.length ≤ maxLen := by rw [maxLen_eq]; omega
  have hi := itoa_le (ck s) (ck_InR s)
  have hd : decide ((s.length : Int) > 4000) = false := decide_eq_false (by omega)
  have hd' : decide ((4000 : Int) < (s.length : Int)) = false := decide_eq_false (by omega)
  have hc : s.contains 35 = false := by
    cases h : s.contains 35 with
    | false => rfl
    | true => exact absurd (List.contains_iff_mem.1 h) hs
  have hl2 : (sealL s).length ≤ 4000 := by
    simp only [sealL, List.length_append, List.length_cons]; omega
  have hd2 : decide (((sealL s).length : Int) > 4000) = false := decide_eq_false (by omega)
  have hd2' : decide ((4000 : Int) < ((sealL s).length : Int)) = false := decide_eq_false (by omega)
  have hd3 : decide ((4000 : Int) < ((s.length + ((Lib.itoa (ck s)).length + 1) : Nat) : Int)) = false := decide_eq_false (by omega)
  refine Fn_of' (fn := f51) (by exact func51) c51 r51 (n := 22) (by rfl) (rv := [.tmp 2, .tmp 3]) (by rfl) (by simp) ?_
  unfold m51
  repeat' (first
      | (simp only [hd, hd', hc, sealL_eq, hd2, hd2', hd3, ↓wA, ↓wC, wB, frzBE, frzBS, Nat.reduceEqDiff, Nat.reduceAdd, Nat.reduceSub, reduceIte, reduceCtorEq, Nat.reduceBEq, Nat.reduceLT, decide_true])
      | (refine call_det (contains_fn s 35) rfl rfl ?_)
      | (refine callP_det (contains_fn s 35) rfl rfl ?_)
      | (refine call_det (checksum_fn s hm) rfl rfl ?_)
      | (refine callP_det (checksum_fn s hm) rfl rfl ?_)
      | (refine call_det (decimal_fn (ck s) (ck_InR s)) rfl rfl ?_)
      | (refine callP_det (decimal_fn (ck s) (ck_InR s)) rfl rfl ?_)
      | (refine onC_i (by (try simp only [List.length_append, List.length_cons, List.length_nil]); omega) ?_)
      | (refine execG_split (fun h => ?_) (fun h => ?_) <;> simp only [h])
      | (refine execC_split (fun h => ?_) (fun h => ?_) <;> (try simp only [h]))
      | (refine onPick_split (fun h => ?_) (fun h => ?_) <;> (try simp only [h])))
  all_goals first | rfl | (simp [sealL])
theorem body_eq (k : Int) (c r : List UInt8) : Lib.itoa k ++ [32] ++ c ++ [64] ++ r = body k c r := by simp [body]
theorem body_len {k : Int} {c r : List UInt8} (hk : InR .i64 k) (h : recOK c r = true) : (body k c r).length ≤ 400 := by
  have := itoa_le k hk
  obtain ⟨h1, h2, h3, _⟩ := rec_parts h
  simp only [body, List.length_append, List.length_cons]; omega
theorem line_len {k : Int} {c r : List UInt8} (hk : InR .i64 k) (h : recOK c r = true) : (line k c r).length ≤ 430 := by
  have h1 := body_len hk h
  have := itoa_le (ck (body k c r)) (ck_InR _)
  simp only [line, sealL, List.length_append, List.length_cons]; omega
theorem l27Line_fn (k : Int) (c r : List UInt8) (h0 : 0 ≤ k) (hk : InR .i64 k) (h : recOK c r = true) : Fn prog 46 [.int .i64 k, recD c r] (fun rs => rs = [.str (line k c r ++ [10])]) := by
  have hi := itoa_le k hk
  obtain ⟨h1, h2, h3, _⟩ := rec_parts h
  have hb := body_len hk h
  have hl := line_len hk h
  unfold line at hl
  refine Fn_of' (fn := f46) (by exact func46) c46 r46 (n := 17) (by rfl) (rv := [.tmp 4]) (by rfl) (by simp) ?_
  unfold m46
  simp only [recD]
  repeat' (first
      | (simp only [body_eq, ↓wA, ↓wC, wB, frzBE, frzBS, Nat.reduceEqDiff, Nat.reduceAdd, Nat.reduceSub, reduceIte, reduceCtorEq, Nat.reduceBEq, Nat.reduceLT, decide_true])
      | (refine call_det (l1Num_fn k h0 hk) rfl rfl ?_)
      | (refine callP_det (l1Num_fn k h0 hk) rfl rfl ?_)
      | (refine call_det (l1Seal_fn (body k c r) (by omega)) rfl rfl ?_)
      | (refine callP_det (l1Seal_fn (body k c r) (by omega)) rfl rfl ?_)
      | (refine onC_i (by (try simp only [List.length_append, List.length_cons, List.length_nil]); omega) ?_)
      | (refine execG_split (fun h => ?_) (fun h => ?_) <;> simp only [h])
      | (refine execC_split (fun h => ?_) (fun h => ?_) <;> (try simp only [h]))
      | (refine onPick_split (fun h => ?_) (fun h => ?_) <;> (try simp only [h])))
  all_goals rfl
/-- what encodes a record. -/
def encR (k : Int) (c r : List UInt8) : List D := if within k 0 59 = true ∧ recOK c r = true then [.str (line k c r ++ [10]), .bool true] else [.str [], .bool false]
theorem within_InR {k : Int} (h : within k 0 59 = true) : 0 ≤ k ∧ InR .i64 k := by
  simp only [within, Bool.and_eq_true, decide_eq_true_eq] at h
  simp only [InR]; omega
theorem specEncode_fn (k : Int) (c r : List UInt8) (hc : c.length ≤ maxLen) (hr : r.length ≤ maxLen) : Fn prog 32 [.int .i64 k, recD c r] (fun rs => rs = encR k c r) := by
  have hg := l27Good_fn c r hc hr
  refine Fn_of' (fn := f32) (by exact func32) c32 r32 (n := 17) (by rfl) (rv := [.tmp 4, .tmp 5]) (by rfl) (by simp) ?_
  unfold m32
  cases h1 : within k 0 59 with
  | false =>
    have hw := l1In_fn k 0 59
    rw [h1] at hw
    simp only [recD] at hg ⊢
    repeat' (first
        | (simp only [↓wA, ↓wC, wB, frzBE, frzBS, Nat.reduceEqDiff, Nat.reduceAdd, Nat.reduceSub, reduceIte, reduceCtorEq, Nat.reduceBEq, Nat.reduceLT, decide_true])
        | (refine call_det hw rfl rfl ?_)
        | (refine call_det hg rfl rfl ?_)
        | (refine execG_split (fun h => ?_) (fun h => ?_) <;> simp only [h])
        | (refine execC_split (fun h => ?_) (fun h => ?_) <;> (try simp only [h]))
        | (refine onPick_split (fun h => ?_) (fun h => ?_) <;> (try simp only [h])))
    all_goals simp [encR, h1]
  | true =>
    have hw := l1In_fn k 0 59
    rw [h1] at hw
    cases h2 : recOK c r with
    | false =>
      rw [h2] at hg
      simp only [recD] at hg ⊢
      repeat' (first
          | (simp only [↓wA, ↓wC, wB, frzBE, frzBS, Nat.reduceEqDiff, Nat.reduceAdd, Nat.reduceSub, reduceIte, reduceCtorEq, Nat.reduceBEq, Nat.reduceLT, decide_true])
          | (refine call_det hw rfl rfl ?_)
          | (refine call_det hg rfl rfl ?_)
          | (refine execG_split (fun h => ?_) (fun h => ?_) <;> simp only [h])
          | (refine execC_split (fun h => ?_) (fun h => ?_) <;> (try simp only [h]))
          | (refine onPick_split (fun h => ?_) (fun h => ?_) <;> (try simp only [h])))
      all_goals simp [encR, h1, h2]
    | true =>
      rw [h2] at hg
      obtain ⟨h0, hk⟩ := within_InR h1
      have hl := l27Line_fn k c r h0 hk h2
      simp only [recD] at hg hl ⊢
      repeat' (first
          | (simp only [↓wA, ↓wC, wB, frzBE, frzBS, Nat.reduceEqDiff, Nat.reduceAdd, Nat.reduceSub, reduceIte, reduceCtorEq, Nat.reduceBEq, Nat.reduceLT, decide_true])
          | (refine call_det hw rfl rfl ?_)
          | (refine call_det hg rfl rfl ?_)
          | (refine call_det hl rfl rfl ?_)
          | (refine execG_split (fun h => ?_) (fun h => ?_) <;> simp only [h])
          | (refine execC_split (fun h => ?_) (fun h => ?_) <;> (try simp only [h]))
          | (refine onPick_split (fun h => ?_) (fun h => ?_) <;> (try simp only [h])))
      all_goals simp [encR, h1, h2]
theorem encode_fn (k : Int) (c r : List UInt8) (hc : c.length ≤ maxLen) (hr : r.length ≤ maxLen) : Fn prog 31 [.int .i64 k, recD c r] (fun rs => rs = encR k c r) := by
  have hg := isValidRecord_fn c r hc hr
  refine Fn_of' (fn := f31) (by exact func31) c31 r31 (n := 33) (by rfl) (rv := [.tmp 4, .tmp 5]) (by rfl) (by simp) ?_
  unfold m31
  cases h1 : within k 0 59 with
  | false =>
    have hw := within_fn k 0 59
    rw [h1] at hw
    simp only [recD] at hg ⊢
    repeat' (first
        | (simp only [↓wA, ↓wC, wB, frzBE, frzBS, Nat.reduceEqDiff, Nat.reduceAdd, Nat.reduceSub, reduceIte, reduceCtorEq, Nat.reduceBEq, Nat.reduceLT, decide_true])
        | (refine call_det hw rfl rfl ?_)
        | (refine call_det hg rfl rfl ?_)
        | (refine execG_split (fun h => ?_) (fun h => ?_) <;> simp only [h])
        | (refine execC_split (fun h => ?_) (fun h => ?_) <;> (try simp only [h]))
        | (refine onPick_split (fun h => ?_) (fun h => ?_) <;> (try simp only [h])))
    all_goals simp [encR, h1]
  | true =>
    have hw := within_fn k 0 59
    rw [h1] at hw
    cases h2 : recOK c r with
    | false =>
      rw [h2] at hg
      simp only [recD] at hg ⊢
      repeat' (first
          | (simp only [↓wA, ↓wC, wB, frzBE, frzBS, Nat.reduceEqDiff, Nat.reduceAdd, Nat.reduceSub, reduceIte, reduceCtorEq, Nat.reduceBEq, Nat.reduceLT, decide_true])
          | (refine call_det hw rfl rfl ?_)
          | (refine call_det hg rfl rfl ?_)
          | (refine execG_split (fun h => ?_) (fun h => ?_) <;> simp only [h])
          | (refine execC_split (fun h => ?_) (fun h => ?_) <;> (try simp only [h]))
          | (refine onPick_split (fun h => ?_) (fun h => ?_) <;> (try simp only [h])))
      all_goals simp [encR, h1, h2]
    | true =>
      rw [h2] at hg
      obtain ⟨h0, hk⟩ := within_InR h1
      have hi := itoa_le k hk
      obtain ⟨h3, h4, h5, _⟩ := rec_parts h2
      have hb := body_len hk h2
      have hl := line_len hk h2
      unfold line at hl
      have ha := appendChecksum_fn (body k c r) (by omega) (body_no35 h2)
      simp only [recD] at hg ⊢
      repeat' (first
          | (simp only [body_eq, ↓wA, ↓wC, wB, frzBE, frzBS, Nat.reduceEqDiff, Nat.reduceAdd, Nat.reduceSub, reduceIte, reduceCtorEq, Nat.reduceBEq, Nat.reduceLT, decide_true])
          | (refine call_det hw rfl rfl ?_)
          | (refine call_det hg rfl rfl ?_)
          | (refine callP_det (decimal_fn k hk) rfl rfl ?_)
          | (refine callP_det ha rfl rfl ?_)
          | (refine onC_i (by (try simp only [List.length_append, List.length_cons, List.length_nil]); omega) ?_)
          | (refine execG_split (fun h => ?_) (fun h => ?_) <;> simp only [h])
          | (refine execC_split (fun h => ?_) (fun h => ?_) <;> (try simp only [h]))
          | (refine onPick_split (fun h => ?_) (fun h => ?_) <;> (try simp only [h])))
      all_goals simp [encR, h1, h2, line]
end Go.Pe.Tryd

set_option maxRecDepth 100000
set_option maxHeartbeats 4000000
set_option linter.all false
namespace Go.Pe.Tryd
theorem index_one (x : UInt8) : ∀ s : List UInt8, (x ∈ s → Lib.index s [x] = ((before x s).length : Int)) ∧ (x ∉ s → Lib.index s [x] = -1)
  | [] => ⟨fun h => (by cases h), fun _ => rfl⟩
  | b :: s => by
    obtain ⟨ih1, ih2⟩ := index_one x s
    by_cases e : b = x
    · subst e
      refine ⟨fun _ => ?_, fun h => absurd (List.mem_cons_self ..) h⟩
      have hp : ([b] : List UInt8).isPrefixOf (b :: s) = true := by simp [List.isPrefixOf]
      rw [Lib.index, if_pos hp]
      simp [before]
    · have hp : ([x] : List UInt8).isPrefixOf (b :: s) = false := by
        simp only [List.isPrefixOf, Bool.and_eq_false_iff, beq_eq_false_iff_ne]
        exact .inl fun h => e h.symm
      have hb : (b != x) = true := by simpa [bne_iff_ne] using e
      refine ⟨fun h => ?_, fun h => ?_⟩
      · have hm : x ∈ s := by
          rcases List.mem_cons.1 h with h | h
          · exact absurd h.symm e
          · exact h
        have h1 : ((Lib.index s [x]) == -1) = false := by rw [ih1 hm, beq_eq_false_iff_ne]; omega
        rw [Lib.index, hp, h1, ih1 hm]
        simp [before, List.takeWhile_cons, hb]
      · have hm : x ∉ s := fun hm => h (List.mem_cons_of_mem _ hm)
        have h1 : ((Lib.index s [x]) == -1) = true := by rw [ih2 hm]; rfl
        rw [Lib.index, hp, h1]
        rfl
theorem cut_one (x : UInt8) (s : List UInt8) : Lib.cut s [x] = (before x s, after x s, s.contains x) := by
  obtain ⟨h1, h2⟩ := index_one x s
  unfold Lib.cut
  by_cases h : x ∈ s
  · rw [h1 h, if_pos (by omega)]
    refine Prod.ext ?_ (Prod.ext ?_ ?_)
    · show s.take ((before x s).length : Int).toNat = before x s
      rw [Int.toNat_natCast, ← before_take]
    · show s.drop (((before x s).length : Int).toNat + [x].length) = after x s
      rw [Int.toNat_natCast, List.length_singleton, ← after_drop h]
    · exact (List.contains_iff_mem.2 h).symm
  · rw [h2 h, if_neg (by omega)]
    refine Prod.ext (before_none h).symm (Prod.ext (after_none h).symm ?_)
    cases hc : s.contains x with
    | false => rfl
    | true => exact absurd (List.contains_iff_mem.1 hc) h
/-- the parts of a text between bytes, so far: what is done, where the last one begins. -/
def spl (x : UInt8) (s : List UInt8) : Nat → List (List UInt8) × Nat
  | 0 => ([], 0)
  | i + 1 => match s[i]? with
    | some c => if c = x then ((spl x s i).1 ++ [(s.take i).drop (spl x s i).2], i + 1) else spl x s i
    | none => spl x s i
def parts (x : UInt8) (s : List UInt8) : List (List UInt8) := (spl x s s.length).1 ++ [s.drop (spl x s s.length).2]
theorem spl_up {x c : UInt8} {s : List UInt8} {i : Nat} (h : s[i]? = some c) : spl x s (i + 1) = if c = x then ((spl x s i).1 ++ [(s.take i).drop (spl x s i).2], i + 1) else spl x s i := by
  simp only [spl, h]
theorem spl_bd (x : UInt8) (s : List UInt8) : ∀ i, (spl x s i).2 ≤ i ∧ (spl x s i).1.length ≤ i
  | 0 => by simp [spl]
  | i + 1 => by
    have ih := spl_bd x s i
    simp only [spl]
    split
    · split
      · simp; omega
      · omega
    · omega
theorem spl_inv (x : UInt8) (s : List UInt8) : ∀ i, i ≤ s.length → ((spl x s i).1 = [] ∧ (spl x s i).2 = 0 ∧ x ∉ s.take i) ∨ ((spl x s i).1[0]? = some (before x s) ∧ x ∈ s)
  | 0, _ => .inl ⟨rfl, rfl, by simp⟩
  | i + 1, h => by
    have hi : i < s.length := h
    have hc : s[i]? = some s[i] := List.getElem?_eq_getElem hi
    rw [spl_up hc]
    have hsp : s = s.take i ++ s[i] :: s.drop (i + 1) := by
      rw [← List.drop_eq_getElem_cons hi, List.take_append_drop]
    have htk : s.take (i + 1) = s.take i ++ [s[i]] := by rw [List.take_succ_eq_append_getElem hi]
    rcases spl_inv x s i (by omega) with ⟨h1, h2, h3⟩ | ⟨h1, h2⟩
    · split
      · rename_i e
        right
        refine ⟨?_, e ▸ List.getElem_mem hi⟩
        rw [h1, h2]
        have : before x s = s.take i := by
          have h4 := before_app (t := s.drop (i + 1)) h3
          rw [← e, ← hsp] at h4
          rw [← e]; exact h4
        simp [this]
      · rename_i e
        left
        refine ⟨h1, h2, ?_⟩
        rw [htk, List.mem_append, List.mem_singleton]
        rintro (h | h)
        · exact h3 h
        · exact e h.symm
    · right
      split
      · refine ⟨?_, h2⟩
        rw [List.getElem?_append_left (lt_of_get h1)]; exact h1
      · exact ⟨h1, h2⟩
theorem parts_head (x : UInt8) (s : List UInt8) : (parts x s)[0]? = some (before x s) := by
  unfold parts
  rcases spl_inv x s s.length (Nat.le_refl _) with ⟨h1, h2, h3⟩ | ⟨h1, h2⟩
  · rw [List.take_length] at h3
    rw [h1, h2, before_none h3]; rfl
  · rw [List.getElem?_append_left (lt_of_get h1)]; exact h1
theorem parts_two (x : UInt8) (s : List UInt8) : (parts x s).length < 2 ↔ x ∉ s := by
  unfold parts
  rcases spl_inv x s s.length (Nat.le_refl _) with ⟨h1, h2, h3⟩ | ⟨h1, h2⟩
  · rw [List.take_length] at h3
    rw [h1]
    simp [h3]
  · have := lt_of_get h1
    simp only [List.length_append, List.length_singleton]
    constructor
    · intro h; omega
    · intro h; exact absurd h2 h
/-- what the line of a record is read as, step by step. -/
theorem rd_parts {k : Int} {c r : List UInt8} (h : recOK c r = true) : sealL (before 35 (line k c r)) = line k c r ∧ before 35 (line k c r) = body k c r ∧ after 32 (body k c r) = c ++ 64 :: r ∧ before 64 (c ++ 64 :: r) = c ∧ after 64 (c ++ 64 :: r) = r := by
  have h64 := (rec_parts h).2.2.2.2.2
  have h32 : (32 : UInt8) ∉ Lib.itoa k := itoa_not k 32 (by decide) (by decide)
  refine ⟨by rw [line_before h]; rfl, line_before h, ?_, before_app h64, after_app h64⟩
  unfold body
  exact after_app h32
theorem rd_none {k : Int} {L : List UInt8} (h : rd k L = none) (c r : List UInt8) (hok : recOK c r = true) : ¬ line k c r = L := fun e => by
  rw [rd_iff.2 ⟨hok, e⟩] at h
  cases h
theorem opens_step {n : Nat} {k : Int} {s : List UInt8} {e : List UInt8 × List UInt8} (h10 : (10 : UInt8) ∈ s) (h : rd k (before 10 s) = some e) : opens (n + 1) k s = (e :: (opens n (k + 1) (after 10 s)).1, (before 10 s).length + 1 + (opens n (k + 1) (after 10 s)).2) := by
  simp only [opens, h10, if_true, h]
theorem opens_no10 {n : Nat} {k : Int} {s : List UInt8} (h : (10 : UInt8) ∉ s) : opens n k s = ([], 0) := by
  cases n with
  | zero => rfl
  | succ n => simp only [opens, h, if_false]
theorem opens_bad {n : Nat} {k : Int} {s : List UInt8} (h : rd k (before 10 s) = none) : opens n k s = ([], 0) := by
  cases n with
  | zero => rfl
  | succ n => simp only [opens, h]; split <;> rfl
/-- the records of a log that is read to its end are not long. -/
theorem opens_short {B : Nat} (hB : ∀ (k : Int) (c r : List UInt8), 0 ≤ k → k ≤ 60 → recOK c r = true → (line k c r).length ≤ B) : ∀ (n : Nat) (k : Int) (s : List UInt8), 0 ≤ k → k + n ≤ 60 → (opens n k s).2 ≤ (B + 1) * n
  | 0, _, _, _, _ => by simp [opens]
  | n + 1, k, s, h0, h1 => by
    by_cases h10 : (10 : UInt8) ∈ s
    · cases hr : rd k (before 10 s) with
      | none => rw [opens_bad hr]; simp
      | some d =>
        rw [opens_step h10 hr]
        obtain ⟨hok, hl⟩ := rd_iff.1 hr
        have := hB k d.1 d.2 h0 (by omega) hok
        rw [hl] at this
        have ih := opens_short hB n (k + 1) (after 10 s) (by omega) (by omega)
        simp only [Nat.mul_succ]
        omega
    · rw [opens_no10 h10]; simp
/-- does a text end with the sum of what stands ahead of it? -/
def vfy (s : List UInt8) : Bool := decide ((before 35 s).length ≤ 4000 ∧ (sealL (before 35 s)).length ≤ 4000 ∧ sealL (before 35 s) = s)
/-- the record that the program takes a line for. -/
def nxtT (L : List UInt8) : List UInt8 := after 32 (if vfy L = true then before 35 L else [])
def nxt (L : List UInt8) : List UInt8 × List UInt8 := (before 64 (nxtT L), after 64 (nxtT L))
theorem after_le (x : UInt8) (s : List UInt8) : (after x s).length ≤ s.length := by
  unfold after
  have := (List.dropWhile_sublist (p := (· != x)) (l := s)).length_le
  simp only [List.length_drop]; omega
theorem nxt_le (L : List UInt8) : (nxtT L).length ≤ L.length ∧ (nxt L).1.length ≤ L.length ∧ (nxt L).2.length ≤ L.length := by
  have h1 : (nxtT L).length ≤ L.length := by
    unfold nxtT
    split
    · exact Nat.le_trans (after_le 32 _) (before_le 35 L)
    · simp [after]
  exact ⟨h1, Nat.le_trans (before_le 64 _) h1, Nat.le_trans (after_le 64 _) h1⟩
theorem nxt_rd {k : Int} {L : List UInt8} (hb : ∀ c r : List UInt8, recOK c r = true → (body k c r).length ≤ 4000 ∧ (line k c r).length ≤ 4000) :
    rd k L = if recOK (nxt L).1 (nxt L).2 = true ∧ line k (nxt L).1 (nxt L).2 = L then some (nxt L) else none := by
  cases h : rd k L with
  | none =>
    rw [if_neg]
    rintro ⟨h1, h2⟩
    exact rd_none h _ _ h1 h2
  | some e =>
    obtain ⟨c, r⟩ := e
    obtain ⟨h1, h2⟩ := rd_iff.1 h
    obtain ⟨p1, p2, p3, p4, p5⟩ := rd_parts (k := k) h1
    rw [h2] at p1 p2
    obtain ⟨b1, b2⟩ := hb c r h1
    have hv : vfy L = true := decide_eq_true ⟨by rw [p2]; exact b1, by rw [p1, ← h2]; exact b2, p1⟩
    have hn : nxt L = (c, r) := by
      unfold nxt nxtT
      rw [if_pos hv, p2, p3, p4, p5]
    rw [hn, if_pos ⟨h1, h2⟩]
/-- what the reference reads a line as. -/
def rdT (k : Int) (L : List UInt8) : List UInt8 := (before 35 L).drop ((Lib.itoa k).length + 1)
def rdv (k : Int) (L : List UInt8) : (List UInt8 × List UInt8) × Bool :=
  if (before 35 L).length < (Lib.itoa k).length + 1 ∨ (before 35 L).take ((Lib.itoa k).length + 1) ≠ Lib.itoa k ++ [32] then (([], []), false)
  else if (64 : UInt8) ∉ rdT k L then (([], []), false)
  else ((before 64 (rdT k L), after 64 (rdT k L)), recOK (before 64 (rdT k L)) (after 64 (rdT k L)) && decide (line k (before 64 (rdT k L)) (after 64 (rdT k L)) = L))
theorem rdv_rd (k : Int) (L : List UInt8) : rd k L = if (rdv k L).2 = true then some (rdv k L).1 else none := by
  by_cases h1 : (before 35 L).length < (Lib.itoa k).length + 1 ∨ (before 35 L).take ((Lib.itoa k).length + 1) ≠ Lib.itoa k ++ [32]
  · unfold rdv
    rw [if_pos h1]
    cases h : rd k L with
    | none => rfl
    | some e =>
      obtain ⟨c, r⟩ := e
      obtain ⟨h2, h3⟩ := rd_iff.1 h
      have hp := (rd_parts (k := k) h2).2.1
      rw [h3] at hp
      exfalso
      rw [hp] at h1
      rcases h1 with h1 | h1
      · simp [body] at h1
      · apply h1
        unfold body
        rw [List.take_append, List.take_of_length_le (by omega), show (Lib.itoa k).length + 1 - (Lib.itoa k).length = 1 by omega]; rfl
  · by_cases h4 : (64 : UInt8) ∉ rdT k L
    · unfold rdv
      rw [if_neg h1, if_pos h4]
      cases h : rd k L with
      | none => rfl
      | some e =>
        obtain ⟨c, r⟩ := e
        obtain ⟨h2, h3⟩ := rd_iff.1 h
        have hp := (rd_parts (k := k) h2).2.1
        rw [h3] at hp
        exfalso
        apply h4
        unfold rdT
        rw [hp, body_rest]
        simp
    · unfold rdv
      rw [if_neg h1, if_neg h4]
      unfold rd
      show (if recOK (before 64 (rdT k L)) (after 64 (rdT k L)) = true ∧ line k (before 64 (rdT k L)) (after 64 (rdT k L)) = L then _ else _) = _
      by_cases h5 : recOK (before 64 (rdT k L)) (after 64 (rdT k L)) = true
      · by_cases h6 : line k (before 64 (rdT k L)) (after 64 (rdT k L)) = L
        · rw [if_pos ⟨h5, h6⟩]; simp only [h5, h6, decide_true, Bool.and_true, if_true]; rfl
        · rw [if_neg (fun h => h6 h.2)]; simp [h6]
      · rw [if_neg (fun h => h5 h.1)]; simp [h5]
/-- a loop that reads records: so far. -/
structure Reads (s : List UInt8) (p : List (List UInt8 × List UInt8) × Nat) : Prop where
  len : p.1.length ≤ 60
  pos : p.2 ≤ s.length
  all : opens 60 0 s = (p.1 ++ (opens (60 - p.1.length) p.1.length (s.drop p.2)).1, p.2 + (opens (60 - p.1.length) p.1.length (s.drop p.2)).2)
theorem Reads.start (s : List UInt8) : Reads s ([], 0) := ⟨by simp, by simp, by simp⟩
theorem Reads.stop10 {s p} (h : Reads s p) (h10 : (10 : UInt8) ∉ s.drop p.2) : opens 60 0 s = p := by
  rw [h.all, opens_no10 h10]; simp
theorem Reads.stopRd {s p} (h : Reads s p) (hr : rd (p.1.length : Int) (before 10 (s.drop p.2)) = none) : opens 60 0 s = p := by
  rw [h.all, opens_bad hr]; simp
theorem Reads.stopLen {s p} (h : Reads s p) (hr : ¬ p.1.length < 60) : opens 60 0 s = p := by
  rw [h.all, show 60 - p.1.length = 0 by have := h.len; omega]; simp [opens]
theorem Reads.stopEnd {s p} (h : Reads s p) (hr : ¬ p.2 < s.length) : opens 60 0 s = p := by
  refine h.stop10 ?_
  rw [List.drop_of_length_le (by omega)]; simp
theorem Reads.next {s p e} (h : Reads s p) (hl : p.1.length < 60) (h10 : (10 : UInt8) ∈ s.drop p.2) (hr : rd (p.1.length : Int) (before 10 (s.drop p.2)) = some e) :
    Reads s (p.1 ++ [e], p.2 + ((before 10 (s.drop p.2)).length + 1)) := by
  have hal := after_len h10
  rw [List.length_drop] at hal
  have hp := h.pos
  refine ⟨by simp; omega, by show p.2 + _ ≤ _; omega, ?_⟩
  have hn : 60 - p.1.length = (60 - (p.1.length + 1)) + 1 := by omega
  have hd : s.drop (p.2 + ((before 10 (s.drop p.2)).length + 1)) = after 10 (s.drop p.2) := by rw [after_drop h10, List.drop_drop]
  rw [h.all, hn, opens_step h10 hr]
  simp only [List.length_append, List.length_singleton, hd]
  refine Prod.ext ?_ ?_
  · simp
  · simp; omega
end Go.Pe.Tryd

set_option maxRecDepth 100000
set_option maxHeartbeats 4000000
set_option linter.all false
namespace Go.Pe.Tryd
open Go.Proofs.Tryd Go.Sort
theorem cut_fn (s : List UInt8) (x : UInt8) (hl : s.length ≤ 4000000000) : Fn prog 71 [.str s, .str [x]] (fun rs => rs = [.str (before x s), .str (after x s), .bool (s.contains x)]) :=
  Fn_lib rfl rfl fun w hF => by
    obtain ⟨m, hm⟩ := maxOf hF
    refine (Go.Proofs.Tryd.strings_Cut ⟨s.toArray⟩ ⟨#[x]⟩ m w (by show s.toArray.size < _; simp; omega) hm).mono ?_
    rintro e w' ⟨rfl, n, rfl⟩
    refine ⟨?_, Ext.drewN n⟩
    have hc : Lib.cut s [x] = (before x s, after x s, s.contains x) := cut_one x s
    simp only [hc]
    rfl
theorem dl_str (L : List (List UInt8)) (s : List UInt8) : (dl D.str L).app (D.cons (.str s) .nil) = dl D.str (L ++ [s]) := app_one (f := D.str) L s
theorem l1Split_fn (s : List UInt8) (x : UInt8) (hl : s.length ≤ 1000000000) : Fn prog 61 [.str s, .int .u8 (x.toNat : Int)] (fun rs => rs = [.sl true 1 (dl D.str (parts x s))]) := by
  refine Fn_of' (fn := f61) (by exact func61) c61 r61 (n := 35) (by rfl) (rv := [.tmp 4]) (by rfl) (by simp) ?_
  unfold m61
  repeat' (first
      | (simp only [onC_true, ↓wA, ↓wC, wB, frzBE, frzBS, Nat.reduceEqDiff, Nat.reduceAdd, Nat.reduceSub, reduceIte, reduceCtorEq, Nat.reduceBEq, Nat.reduceLT, decide_true])
      | (refine execG_split (fun h => ?_) (fun h => ?_) <;> simp only [h])
      | (refine execC_split (fun h => ?_) (fun h => ?_) <;> (try simp only [h]))
      | (refine onPick_split (fun h => ?_) (fun h => ?_) <;> (try simp only [h])))
  refine exec_range s.length (fun i : Nat => ⟨[(0, .d (.str s)), (1, .d (.int .u8 (x.toNat : Int))), (5, .own 0), (6, .d (.int .i64 (spl x s i).2)), (7, .d (.int .i64 i))], [.val (.sl true 1 (dl D.str (spl x s i).1))]⟩) (fun _ => True) (weak_of _ rfl ⟨⟨rfl, rfl⟩, ⟨rfl, rfl⟩, ⟨rfl, rfl⟩, ⟨rfl, rfl⟩, ⟨rfl, rfl⟩, trivial⟩) trivial ?_ ?_
  · intro i hi _ hd h0
    obtain ⟨b, hb⟩ := get_lt hi
    have hbc : decide ((b.toNat : Int) = (x.toNat : Int)) = decide (b = x) := by
      apply decide_eq_decide.2
      constructor
      · intro h; exact UInt8.toNat_inj.1 (by omega)
      · intro h; rw [h]
    have hbd := spl_bd x s i
    have hup := spl_up (x := x) hb
    by_cases hc : b = x
    · rw [if_pos hc] at hup
      repeat' (first
          | (simp only [hd, h0, hb, Int.toNat_natCast, onC_true, hbc, hc, ↓wA, ↓wC, wB, frzBE, frzBS, Nat.reduceEqDiff, Nat.reduceAdd, Nat.reduceSub, reduceIte, reduceCtorEq, Nat.reduceBEq, Nat.reduceLT, decide_true])
          | (refine onC_i (fun h => by cases h) ?_)
          | (with_reducible refine onC_i ?_ ?_; focus ((try simp only [dl_len]); omega))
          | (refine onI_bare (by simp only [InR]; omega) ?_)
          | (refine execG_split (fun h => ?_) (fun h => ?_) <;> simp only [h])
          | (refine execC_split (fun h => ?_) (fun h => ?_) <;> (try simp only [h]))
          | (refine onPick_split (fun h => ?_) (fun h => ?_) <;> (try simp only [h])))
      all_goals (refine ⟨i + 1, ?_, by omega, by omega⟩; rw [hup]; (try simp only [dl_str]); exact (weak_of _ rfl ⟨⟨rfl, rfl⟩, ⟨rfl, rfl⟩, ⟨rfl, rfl⟩, ⟨rfl, rfl⟩, ⟨rfl, rfl⟩, trivial⟩))
    · rw [if_neg hc] at hup
      repeat' (first
          | (simp only [hd, h0, hb, Int.toNat_natCast, onC_true, hbc, hc, ↓wA, ↓wC, wB, frzBE, frzBS, Nat.reduceEqDiff, Nat.reduceAdd, Nat.reduceSub, reduceIte, reduceCtorEq, Nat.reduceBEq, Nat.reduceLT, decide_true])
          | (refine onC_i (fun h => by cases h) ?_)
          | (with_reducible refine onC_i ?_ ?_; focus ((try simp only [dl_len]); omega))
          | (refine onI_bare (by simp only [InR]; omega) ?_)
          | (refine execG_split (fun h => ?_) (fun h => ?_) <;> simp only [h])
          | (refine execC_split (fun h => ?_) (fun h => ?_) <;> (try simp only [h]))
          | (refine onPick_split (fun h => ?_) (fun h => ?_) <;> (try simp only [h])))
      all_goals (refine ⟨i + 1, ?_, by omega, by omega⟩; rw [hup]; (try simp only [dl_str]); exact (weak_of _ rfl ⟨⟨rfl, rfl⟩, ⟨rfl, rfl⟩, ⟨rfl, rfl⟩, ⟨rfl, rfl⟩, ⟨rfl, rfl⟩, trivial⟩))
  · intro _ hd
    have hbd := spl_bd x s s.length
    repeat' (first
        | (simp only [hd, onC_true, Int.toNat_natCast, ↓wA, ↓wC, wB, frzBE, frzBS, Nat.reduceEqDiff, Nat.reduceAdd, Nat.reduceSub, reduceIte, reduceCtorEq, Nat.reduceBEq, Nat.reduceLT, decide_true])
        | (refine onC_i (fun h => by cases h) ?_)
        | (with_reducible refine onC_i ?_ ?_; focus ((try simp only [dl_len]); omega))
        | (refine execG_split (fun h => ?_) (fun h => ?_) <;> simp only [h])
        | (refine execC_split (fun h => ?_) (fun h => ?_) <;> (try simp only [h]))
        | (refine onPick_split (fun h => ?_) (fun h => ?_) <;> (try simp only [h])))
    all_goals (simp only [dl_str]; rfl)
theorem seal_len (s : List UInt8) : (sealL s).length = s.length + 1 + (Lib.itoa (ck s)).length := by simp [sealL]; omega
theorem appendFull_fn (s : List UInt8) (hl : s.length ≤ 1000000000) (hs : (35 : UInt8) ∉ s) : Fn prog 51 [.str s] (fun rs => rs = if s.length ≤ 4000 ∧ (sealL s).length ≤ 4000 then [.str (sealL s), .bool true] else [.str [], .bool false]) := by
  have hm : s.length ≤ maxLen := by rw [maxLen_eq]; omega
  have hi := itoa_le (ck s) (ck_InR s)
  have hsl := seal_len s
  have hc : s.contains 35 = false := by
    cases h : s.contains 35 with
    | false => rfl
    | true => exact absurd (List.contains_iff_mem.1 h) hs
  by_cases h1 : s.length ≤ 4000
  · have hd' : decide ((4000 : Int) < (s.length : Int)) = false := decide_eq_false (by omega)
    by_cases h2 : (sealL s).length ≤ 4000
    · rw [if_pos ⟨h1, h2⟩]
      have hd2' : decide ((4000 : Int) < ((sealL s).length : Int)) = false := decide_eq_false (by omega)
      have hd3 : decide ((4000 : Int) < ((s.length + ((Lib.itoa (ck s)).length + 1) : Nat) : Int)) = false := decide_eq_false (by omega)
      refine Fn_of' (fn := f51) (by exact func51) c51 r51 (n := 22) (by rfl) (rv := [.tmp 2, .tmp 3]) (by rfl) (by simp) ?_
      unfold m51
      repeat' (first
          | (simp only [hd', hc, sealL_eq, hd2', hd3, ↓wA, ↓wC, wB, frzBE, frzBS, Nat.reduceEqDiff, Nat.reduceAdd, Nat.reduceSub, reduceIte, reduceCtorEq, Nat.reduceBEq, Nat.reduceLT, decide_true])
          | (refine call_det (contains_fn s 35) rfl rfl ?_)
          | (refine callP_det (contains_fn s 35) rfl rfl ?_)
          | (refine call_det (checksum_fn s hm) rfl rfl ?_)
          | (refine callP_det (checksum_fn s hm) rfl rfl ?_)
          | (refine call_det (decimal_fn (ck s) (ck_InR s)) rfl rfl ?_)
          | (refine callP_det (decimal_fn (ck s) (ck_InR s)) rfl rfl ?_)
          | (refine onC_i (by (try simp only [List.length_append, List.length_cons, List.length_nil]); omega) ?_)
          | (refine execG_split (fun h => ?_) (fun h => ?_) <;> simp only [h])
          | (refine execC_split (fun h => ?_) (fun h => ?_) <;> (try simp only [h]))
          | (refine onPick_split (fun h => ?_) (fun h => ?_) <;> (try simp only [h])))
      all_goals first | rfl | (simp [sealL])
    · rw [if_neg (fun h => h2 h.2)]
      have hd2' : decide ((4000 : Int) < ((sealL s).length : Int)) = true := decide_eq_true (by omega)
      have hd3 : decide ((4000 : Int) < ((s.length + ((Lib.itoa (ck s)).length + 1) : Nat) : Int)) = true := decide_eq_true (by omega)
      refine Fn_of' (fn := f51) (by exact func51) c51 r51 (n := 22) (by rfl) (rv := [.tmp 2, .tmp 3]) (by rfl) (by simp) ?_
      unfold m51
      repeat' (first
          | (simp only [hd', hc, sealL_eq, hd2', hd3, ↓wA, ↓wC, wB, frzBE, frzBS, Nat.reduceEqDiff, Nat.reduceAdd, Nat.reduceSub, reduceIte, reduceCtorEq, Nat.reduceBEq, Nat.reduceLT, decide_true])
          | (refine call_det (contains_fn s 35) rfl rfl ?_)
          | (refine callP_det (contains_fn s 35) rfl rfl ?_)
          | (refine call_det (checksum_fn s hm) rfl rfl ?_)
          | (refine callP_det (checksum_fn s hm) rfl rfl ?_)
          | (refine call_det (decimal_fn (ck s) (ck_InR s)) rfl rfl ?_)
          | (refine callP_det (decimal_fn (ck s) (ck_InR s)) rfl rfl ?_)
          | (refine onC_i (by (try simp only [List.length_append, List.length_cons, List.length_nil]); omega) ?_)
          | (refine execG_split (fun h => ?_) (fun h => ?_) <;> simp only [h])
          | (refine execC_split (fun h => ?_) (fun h => ?_) <;> (try simp only [h]))
          | (refine onPick_split (fun h => ?_) (fun h => ?_) <;> (try simp only [h])))
      all_goals first | rfl | (simp [sealL])
  · rw [if_neg (fun h => h1 h.1)]
    have hd' : decide ((4000 : Int) < (s.length : Int)) = true := decide_eq_true (by omega)
    refine Fn_of' (fn := f51) (by exact func51) c51 r51 (n := 22) (by rfl) (rv := [.tmp 2, .tmp 3]) (by rfl) (by simp) ?_
    unfold m51
    repeat' (first
        | (simp only [hd', ↓wA, ↓wC, wB, frzBE, frzBS, Nat.reduceEqDiff, Nat.reduceAdd, Nat.reduceSub, reduceIte, reduceCtorEq, Nat.reduceBEq, Nat.reduceLT, decide_true])
        | (refine execG_split (fun h => ?_) (fun h => ?_) <;> simp only [h])
        | (refine execC_split (fun h => ?_) (fun h => ?_) <;> (try simp only [h]))
        | (refine onPick_split (fun h => ?_) (fun h => ?_) <;> (try simp only [h])))
    all_goals rfl
theorem verify_fn (s : List UInt8) (hl : s.length ≤ 1000000000) : Fn prog 72 [.str s] (fun rs => rs = if vfy s = true then [.str (before 35 s), .bool true] else [.str [], .bool false]) := by
  have hb := before_le 35 s
  have hC := cut_fn s 35 (by omega)
  have hA := appendFull_fn (before 35 s) (by omega) (before_not 35 s)
  by_cases h1 : (before 35 s).length ≤ 4000 ∧ (sealL (before 35 s)).length ≤ 4000
  · rw [if_pos h1] at hA
    by_cases h2 : sealL (before 35 s) = s
    · have hv : vfy s = true := decide_eq_true ⟨h1.1, h1.2, h2⟩
      have hd : decide (sealL (before 35 s) = s) = true := decide_eq_true h2
      rw [if_pos hv]
      refine Fn_of' (fn := f72) (by exact func72) c72 r72 (n := 28) (by rfl) (rv := [.tmp 2, .tmp 3]) (by rfl) (by simp) ?_
      unfold m72
      repeat' (first
          | (simp only [hd, ↓wA, ↓wC, wB, frzBE, frzBS, Nat.reduceEqDiff, Nat.reduceAdd, Nat.reduceSub, reduceIte, reduceCtorEq, Nat.reduceBEq, Nat.reduceLT, decide_true])
          | (refine call_det (hC) rfl rfl ?_)
          | (refine callP_det (hC) rfl rfl ?_)
          | (refine call_det (hA) rfl rfl ?_)
          | (refine callP_det (hA) rfl rfl ?_)
          | (refine execG_split (fun h => ?_) (fun h => ?_) <;> simp only [h])
          | (refine execC_split (fun h => ?_) (fun h => ?_) <;> (try simp only [h]))
          | (refine onPick_split (fun h => ?_) (fun h => ?_) <;> (try simp only [h])))
      all_goals trace_state
    · have hv : ¬ vfy s = true := fun h => h2 (of_decide_eq_true h).2.2
      have hd : decide (sealL (before 35 s) = s) = false := decide_eq_false h2
      rw [if_neg hv]
      refine Fn_of' (fn := f72) (by exact func72) c72 r72 (n := 28) (by rfl) (rv := [.tmp 2, .tmp 3]) (by rfl) (by simp) ?_
      unfold m72
      repeat' (first
          | (simp only [hd, ↓wA, ↓wC, wB, frzBE, frzBS, Nat.reduceEqDiff, Nat.reduceAdd, Nat.reduceSub, reduceIte, reduceCtorEq, Nat.reduceBEq, Nat.reduceLT, decide_true])
          | (refine call_det (hC) rfl rfl ?_)
          | (refine callP_det (hC) rfl rfl ?_)
          | (refine call_det (hA) rfl rfl ?_)
          | (refine callP_det (hA) rfl rfl ?_)
          | (refine execG_split (fun h => ?_) (fun h => ?_) <;> simp only [h])
          | (refine execC_split (fun h => ?_) (fun h => ?_) <;> (try simp only [h]))
          | (refine onPick_split (fun h => ?_) (fun h => ?_) <;> (try simp only [h])))
      all_goals trace_state
  · rw [if_neg h1] at hA
    have hv : ¬ vfy s = true := fun h => h1 ⟨(of_decide_eq_true h).1, (of_decide_eq_true h).2.1⟩
    rw [if_neg hv]
    refine Fn_of' (fn := f72) (by exact func72) c72 r72 (n := 28) (by rfl) (rv := [.tmp 2, .tmp 3]) (by rfl) (by simp) ?_
    unfold m72
    repeat' (first
        | (simp only [↓wA, ↓wC, wB, frzBE, frzBS, Nat.reduceEqDiff, Nat.reduceAdd, Nat.reduceSub, reduceIte, reduceCtorEq, Nat.reduceBEq, Nat.reduceLT, decide_true])
        | (refine call_det (hC) rfl rfl ?_)
        | (refine callP_det (hC) rfl rfl ?_)
        | (refine call_det (hA) rfl rfl ?_)
        | (refine callP_det (hA) rfl rfl ?_)
        | (refine execG_split (fun h => ?_) (fun h => ?_) <;> simp only [h])
        | (refine execC_split (fun h => ?_) (fun h => ?_) <;> (try simp only [h]))
        | (refine onPick_split (fun h => ?_) (fun h => ?_) <;> (try simp only [h])))
    all_goals trace_state
end Go.Pe.Tryd

set_option maxRecDepth 100000
set_option maxHeartbeats 4000000
set_option linter.all false
namespace Go.Pe.Tryd
open Go.Proofs.Tryd Go.Sort
def recE (e : List UInt8 × List UInt8) : D := .st (.cons (.str e.1) (.cons (.str e.2) .nil))
theorem dl_rec (L : List (List UInt8 × List UInt8)) (e : List UInt8 × List UInt8) : (dl recE L).app (D.cons (.st (.cons (.str e.1) (.cons (.str e.2) .nil))) .nil) = dl recE (L ++ [e]) := app_one (f := recE) L e
theorem small_i64 {n : Nat} (h : n ≤ 60) : InR .i64 (n : Int) := by simp only [InR]; omega
theorem lens_ok {n : Nat} (hn : n ≤ 60) : ∀ c r : List UInt8, recOK c r = true → (body n c r).length ≤ 4000 ∧ (line n c r).length ≤ 4000 := fun c r h => by
  have h1 := body_len (small_i64 hn) h
  have h2 := line_len (small_i64 hn) h
  omega
/-- what the loop of readRecords knows at its head. -/
def rrS (s : List UInt8) (p : List (List UInt8 × List UInt8) × Nat) : St := ⟨[(0, .d (.str s)), (4, .own 0), (5, .d (.int .i64 p.2))], [.val (.sl true 2 (dl recE p.1))]⟩
theorem readRecords_fn (s : List UInt8) (hl : s.length ≤ 100000000) : Fn prog 57 [.str s] (fun rs => rs = [.sl true 2 (dl recE (opens 60 0 s).1), .int .i64 ((opens 60 0 s).2 : Nat)]) := by
  refine Fn_of' (fn := f57) (by exact func57) c57 r57 (n := 79) (by rfl) (rv := [.tmp 2, .tmp 3]) (by rfl) (by simp) ?_
  unfold m57
  repeat' (first
      | (simp only [onC_true, ↓wA, ↓wC, wB, frzBE, frzBS, Nat.reduceEqDiff, Nat.reduceAdd, Nat.reduceSub, reduceIte, reduceCtorEq, Nat.reduceBEq, Nat.reduceLT, decide_true, sz42])
      | (refine execG_split (fun h => ?_) (fun h => ?_) <;> simp only [h])
      | (refine execC_split (fun h => ?_) (fun h => ?_) <;> (try simp only [h]))
      | (refine onPick_split (fun h => ?_) (fun h => ?_) <;> (try simp only [h])))
  refine exec_loopN [(4, 2)] (rrS s) (Reads s) (fun p => 60 - p.1.length) ([], 0) ⟨rfl, trivial⟩ ?_ (Reads.start s) ?_
  · exact (weak_of _ rfl ⟨⟨rfl, rfl⟩, ⟨rfl, rfl⟩, ⟨rfl, rfl⟩, trivial⟩)
  intro p hp
  have hpl := hp.pos
  have h60 := hp.len
  have hE := opens_le 60 0 s
  unfold rrS
  by_cases hlt : p.1.length < 60
  · have hd : decide ((p.1.length : Int) < 60) = true := decide_eq_true (by omega)
    have hdr : (s.drop p.2).length ≤ 100000000 := by rw [List.length_drop]; omega
    have hC1 := cut_fn (s.drop p.2) 10 (by omega)
    by_cases h10 : (10 : UInt8) ∈ s.drop p.2
    · have hc10 : (s.drop p.2).contains 10 = true := List.contains_iff_mem.2 h10
      rw [hc10] at hC1
      have hbl := before_le 10 (s.drop p.2)
      have hV := verify_fn (before 10 (s.drop p.2)) (by omega)
      have hal := after_len h10
      have hnl := nxt_le (before 10 (s.drop p.2))
      have hC2 := cut_fn (if vfy (before 10 (s.drop p.2)) = true then before 35 (before 10 (s.drop p.2)) else []) 32 (by
        split
        · have := before_le 35 (before 10 (s.drop p.2)); omega
        · simp)
      have hC3 := cut_fn (nxtT (before 10 (s.drop p.2))) 64 (by omega)
      have hEn := encode_fn (p.1.length : Int) (nxt (before 10 (s.drop p.2))).1 (nxt (before 10 (s.drop p.2))).2 (by rw [maxLen_eq]; omega) (by rw [maxLen_eq]; omega)
      have hV' : Fn prog 72 [.str (before 10 (s.drop p.2))] (fun rs => rs = [.str (if vfy (before 10 (s.drop p.2)) = true then before 35 (before 10 (s.drop p.2)) else []), .bool (vfy (before 10 (s.drop p.2)))]) := by
        cases hv : vfy (before 10 (s.drop p.2)) <;> rw [hv] at hV <;> simpa using hV
      have hw : within (p.1.length : Int) 0 59 = true := by simp [within]; omega
      have hrd := nxt_rd (k := (p.1.length : Int)) (L := before 10 (s.drop p.2)) (lens_ok (by omega))
      change Fn prog _ _ (fun rs => rs = [_, .str (nxtT (before 10 (s.drop p.2))), _]) at hC2
      change Fn prog _ _ (fun rs => rs = [.str (nxt (before 10 (s.drop p.2))).1, .str (nxt (before 10 (s.drop p.2))).2, _]) at hC3
      have hn : recE (nxt (before 10 (s.drop p.2))) = recD (nxt (before 10 (s.drop p.2))).1 (nxt (before 10 (s.drop p.2))).2 := rfl
      by_cases hok : recOK (nxt (before 10 (s.drop p.2))).1 (nxt (before 10 (s.drop p.2))).2 = true
      · have hEq : encR (p.1.length : Int) (nxt (before 10 (s.drop p.2))).1 (nxt (before 10 (s.drop p.2))).2 = [.str (line (p.1.length : Int) (nxt (before 10 (s.drop p.2))).1 (nxt (before 10 (s.drop p.2))).2 ++ [10]), .bool true] := if_pos ⟨hw, hok⟩
        rw [hEq] at hEn
        have hll := line_len (small_i64 h60) hok
        by_cases hln : line (p.1.length : Int) (nxt (before 10 (s.drop p.2))).1 (nxt (before 10 (s.drop p.2))).2 = before 10 (s.drop p.2)
        · rw [if_pos ⟨hok, hln⟩] at hrd
          have hnx := hp.next hlt h10 hrd
          rw [hln] at hEn
          generalize nxt (before 10 (s.drop p.2)) = e at *
          generalize before 10 (s.drop p.2) = L at *
          repeat' (first
              | (simp only [hd, dl_len, hrd, onC_true, Int.toNat_natCast, decide_true, ↓wA, ↓wC, wB, frzBE, frzBS, Nat.reduceEqDiff, Nat.reduceAdd, Nat.reduceSub, reduceIte, reduceCtorEq, Nat.reduceBEq, Nat.reduceLT, decide_true, sz42])
              | (refine call_det (hC1) rfl rfl ?_)
              | (refine callP_det (hC1) rfl rfl ?_)
              | (refine call_det (hV') rfl rfl ?_)
              | (refine callP_det (hV') rfl rfl ?_)
              | (refine call_det (hC2) rfl rfl ?_)
              | (refine callP_det (hC2) rfl rfl ?_)
              | (refine call_det (hC3) rfl rfl ?_)
              | (refine callP_det (hC3) rfl rfl ?_)
              | (refine call_det (hEn) rfl rfl ?_)
              | (refine callP_det (hEn) rfl rfl ?_)
              | (with_reducible refine onC_i ?_ ?_; focus omega)
              | (with_reducible refine onC_i ?_ ?_; focus (simp; done))
              | (with_reducible refine onC_i ?_ ?_; focus (simp only [List.length_append, List.length_singleton]; omega))
              | (with_reducible refine onI_bare ?_ ?_; focus (simp only [InR]; omega))
              | (refine execG_split (fun h => ?_) (fun h => ?_) <;> simp only [h])
              | (refine execC_split (fun h => ?_) (fun h => ?_) <;> (try simp only [h]))
              | (refine onPick_split (fun h => ?_) (fun h => ?_) <;> (try simp only [h])))
          all_goals
            refine ⟨(p.1 ++ [e], p.2 + (L.length + 1)), ?_, hnx, by simp only [List.length_append, List.length_singleton]; omega⟩
            rw [dl_rec]
            exact (weak_of _ rfl ⟨⟨rfl, rfl⟩, ⟨rfl, rfl⟩, ⟨rfl, rfl⟩, trivial⟩)
        · rw [if_neg (fun h => hln h.2)] at hrd
          have hst := hp.stopRd hrd
          have hne : decide (line (p.1.length : Int) (nxt (before 10 (s.drop p.2))).1 (nxt (before 10 (s.drop p.2))).2 ++ [10] = before 10 (s.drop p.2) ++ [10]) = false := decide_eq_false fun h => hln (List.append_cancel_right h)
          generalize nxt (before 10 (s.drop p.2)) = e at *
          generalize before 10 (s.drop p.2) = L at *
          repeat' (first
              | (simp only [hd, dl_len, hrd, onC_true, Int.toNat_natCast, decide_true, hne, ↓wA, ↓wC, wB, frzBE, frzBS, Nat.reduceEqDiff, Nat.reduceAdd, Nat.reduceSub, reduceIte, reduceCtorEq, Nat.reduceBEq, Nat.reduceLT, decide_true, sz42])
              | (refine call_det (hC1) rfl rfl ?_)
              | (refine callP_det (hC1) rfl rfl ?_)
              | (refine call_det (hV') rfl rfl ?_)
              | (refine callP_det (hV') rfl rfl ?_)
              | (refine call_det (hC2) rfl rfl ?_)
              | (refine callP_det (hC2) rfl rfl ?_)
              | (refine call_det (hC3) rfl rfl ?_)
              | (refine callP_det (hC3) rfl rfl ?_)
              | (refine call_det (hEn) rfl rfl ?_)
              | (refine callP_det (hEn) rfl rfl ?_)
              | (with_reducible refine onC_i ?_ ?_; focus omega)
              | (with_reducible refine onC_i ?_ ?_; focus (simp; done))
              | (with_reducible refine onC_i ?_ ?_; focus (simp only [List.length_append, List.length_singleton]; omega))
              | (with_reducible refine onI_bare ?_ ?_; focus (simp only [InR]; omega))
              | (refine execG_split (fun h => ?_) (fun h => ?_) <;> simp only [h])
              | (refine execC_split (fun h => ?_) (fun h => ?_) <;> (try simp only [h]))
              | (refine onPick_split (fun h => ?_) (fun h => ?_) <;> (try simp only [h])))
          all_goals (rw [hst])
      · rw [if_neg (fun h => hok h.1)] at hrd
        have hst := hp.stopRd hrd
        have hEq : encR (p.1.length : Int) (nxt (before 10 (s.drop p.2))).1 (nxt (before 10 (s.drop p.2))).2 = [.str [], .bool false] := if_neg (fun h => hok h.2)
        rw [hEq] at hEn
        generalize nxt (before 10 (s.drop p.2)) = e at *
        generalize before 10 (s.drop p.2) = L at *
        repeat' (first
            | (simp only [hd, dl_len, hrd, onC_true, Int.toNat_natCast, decide_true, ↓wA, ↓wC, wB, frzBE, frzBS, Nat.reduceEqDiff, Nat.reduceAdd, Nat.reduceSub, reduceIte, reduceCtorEq, Nat.reduceBEq, Nat.reduceLT, decide_true, sz42])
            | (refine call_det (hC1) rfl rfl ?_)
            | (refine callP_det (hC1) rfl rfl ?_)
            | (refine call_det (hV') rfl rfl ?_)
            | (refine callP_det (hV') rfl rfl ?_)
            | (refine call_det (hC2) rfl rfl ?_)
            | (refine callP_det (hC2) rfl rfl ?_)
            | (refine call_det (hC3) rfl rfl ?_)
            | (refine callP_det (hC3) rfl rfl ?_)
            | (refine call_det (hEn) rfl rfl ?_)
            | (refine callP_det (hEn) rfl rfl ?_)
            | (with_reducible refine onC_i ?_ ?_; focus omega)
            | (with_reducible refine onC_i ?_ ?_; focus (simp; done))
            | (with_reducible refine onC_i ?_ ?_; focus (simp only [List.length_append, List.length_singleton]; omega))
            | (with_reducible refine onI_bare ?_ ?_; focus (simp only [InR]; omega))
            | (refine execG_split (fun h => ?_) (fun h => ?_) <;> simp only [h])
            | (refine execC_split (fun h => ?_) (fun h => ?_) <;> (try simp only [h]))
            | (refine onPick_split (fun h => ?_) (fun h => ?_) <;> (try simp only [h])))
        all_goals (rw [hst])
    · have hc10 : (s.drop p.2).contains 10 = false := by
        cases h : (s.drop p.2).contains 10 with
        | false => rfl
        | true => exact absurd (List.contains_iff_mem.1 h) h10
      rw [hc10] at hC1
      have hst := hp.stop10 h10
      repeat' (first
          | (simp only [hd, dl_len, onC_true, Int.toNat_natCast, ↓wA, ↓wC, wB, frzBE, frzBS, Nat.reduceEqDiff, Nat.reduceAdd, Nat.reduceSub, reduceIte, reduceCtorEq, Nat.reduceBEq, Nat.reduceLT, decide_true, sz42])
          | (refine call_det (hC1) rfl rfl ?_)
          | (refine callP_det (hC1) rfl rfl ?_)
          | (with_reducible refine onC_i ?_ ?_; focus omega)
          | (refine execG_split (fun h => ?_) (fun h => ?_) <;> simp only [h])
          | (refine execC_split (fun h => ?_) (fun h => ?_) <;> (try simp only [h]))
          | (refine onPick_split (fun h => ?_) (fun h => ?_) <;> (try simp only [h])))
      all_goals (rw [hst])
  · have hd : decide ((p.1.length : Int) < 60) = false := decide_eq_false (by omega)
    have hst := hp.stopLen hlt
    repeat' (first
        | (simp only [hd, dl_len, onC_true, Int.toNat_natCast, ↓wA, ↓wC, wB, frzBE, frzBS, Nat.reduceEqDiff, Nat.reduceAdd, Nat.reduceSub, reduceIte, reduceCtorEq, Nat.reduceBEq, Nat.reduceLT, decide_true, sz42])
        | (refine execG_split (fun h => ?_) (fun h => ?_) <;> simp only [h])
        | (refine execC_split (fun h => ?_) (fun h => ?_) <;> (try simp only [h]))
        | (refine onPick_split (fun h => ?_) (fun h => ?_) <;> (try simp only [h])))
    all_goals (rw [hst])
theorem l27Read_fn (k : Int) (L : List UInt8) (h0 : 0 ≤ k) (hk : InR .i64 k) (hl : L.length ≤ 100000000) : Fn prog 62 [.str L, .int .i64 k] (fun rs => rs = [recE (rdv k L).1, .bool (rdv k L).2]) := by
  have hN := l1Num_fn k h0 hk
  have hi := itoa_le k hk
  have hS := l1Split_fn L 35 (by omega)
  have hb := before_le 35 L
  have hS2 := l1Split_fn (rdT k L) 64 (by unfold rdT; rw [List.length_drop]; omega)
  have hp0 := parts_head 35 L
  have hp1 := parts_head 64 (rdT k L)
  by_cases hA : (before 35 L).length < (Lib.itoa k).length + 1
  · have hv : rdv k L = (([], []), false) := if_pos (.inl hA)
    rw [hv]
    have hd : decide (((before 35 L).length : Int) < (((Lib.itoa k).length + 1 : Nat) : Int)) = true := decide_eq_true (by omega)
    generalize before 35 L = T at *
    refine Fn_of' (fn := f62) (by exact func62) c62 r62 (n := 64) (by rfl) (rv := [.cell 4 42, .tmp 5]) (by rfl) (by simp) ?_
    unfold m62
    repeat' (first
        | (simp only [dl_nth, hp0, hp1, Option.map_some, onC_true, Int.toNat_natCast, Int.toNat_zero, hd, ↓wA, ↓wC, wB, frzBE, frzBS, Nat.reduceEqDiff, Nat.reduceAdd, Nat.reduceSub, reduceIte, reduceCtorEq, Nat.reduceBEq, Nat.reduceLT, decide_true, sz42])
        | (refine call_det (hN) rfl rfl ?_)
        | (refine callP_det (hN) rfl rfl ?_)
        | (refine call_det (hS) rfl rfl ?_)
        | (refine callP_det (hS) rfl rfl ?_)
        | (with_reducible refine onC_i ?_ ?_; focus omega)
        | (with_reducible refine onC_i ?_ ?_; focus (simp only [List.length_append, List.length_singleton]; omega))
        | (refine execG_split (fun h => ?_) (fun h => ?_) <;> simp only [h])
        | (refine execC_split (fun h => ?_) (fun h => ?_) <;> (try simp only [h]))
        | (refine onPick_split (fun h => ?_) (fun h => ?_) <;> (try simp only [h])))
    all_goals rfl
  have hd : decide (((before 35 L).length : Int) < (((Lib.itoa k).length + 1 : Nat) : Int)) = false := decide_eq_false (by omega)
  by_cases hB : (before 35 L).take ((Lib.itoa k).length + 1) = Lib.itoa k ++ [32]
  · have h1 : ¬ ((before 35 L).length < (Lib.itoa k).length + 1 ∨ (before 35 L).take ((Lib.itoa k).length + 1) ≠ Lib.itoa k ++ [32]) := fun h => h.elim hA fun h => h hB
    have hd2 : decide ((before 35 L).take ((Lib.itoa k).length + 1) = Lib.itoa k ++ [32]) = true := decide_eq_true hB
    have hr : (before 35 L).drop ((Lib.itoa k).length + 1) = rdT k L := rfl
    have hrl : (rdT k L).length ≤ 100000000 := by unfold rdT; rw [List.length_drop]; omega
    have hb2 := before_le 64 (rdT k L)
    by_cases h4 : (64 : UInt8) ∉ rdT k L
    · have hv : rdv k L = (([], []), false) := by unfold rdv; rw [if_neg h1, if_pos h4]
      rw [hv]
      have hd3 : decide (((before 64 (rdT k L)).length : Int) = ((rdT k L).length : Int)) = true := decide_eq_true (by rw [before_none h4])
      generalize before 35 L = T at *
      refine Fn_of' (fn := f62) (by exact func62) c62 r62 (n := 64) (by rfl) (rv := [.cell 4 42, .tmp 5]) (by rfl) (by simp) ?_
      unfold m62
      repeat' (first
          | (simp only [dl_nth, hp0, hp1, Option.map_some, onC_true, Int.toNat_natCast, Int.toNat_zero, hd, hd2, hr, hd3, ↓wA, ↓wC, wB, frzBE, frzBS, Nat.reduceEqDiff, Nat.reduceAdd, Nat.reduceSub, reduceIte, reduceCtorEq, Nat.reduceBEq, Nat.reduceLT, decide_true, sz42])
          | (refine call_det (hS2) rfl rfl ?_)
          | (refine callP_det (hS2) rfl rfl ?_)
          | (refine call_det (hN) rfl rfl ?_)
          | (refine callP_det (hN) rfl rfl ?_)
          | (refine call_det (hS) rfl rfl ?_)
          | (refine callP_det (hS) rfl rfl ?_)
          | (with_reducible refine onC_i ?_ ?_; focus omega)
          | (with_reducible refine onC_i ?_ ?_; focus (simp only [List.length_append, List.length_singleton]; omega))
          | (refine execG_split (fun h => ?_) (fun h => ?_) <;> simp only [h])
          | (refine execC_split (fun h => ?_) (fun h => ?_) <;> (try simp only [h]))
          | (refine onPick_split (fun h => ?_) (fun h => ?_) <;> (try simp only [h])))
      all_goals rfl
    · have hv : rdv k L = ((before 64 (rdT k L), after 64 (rdT k L)), recOK (before 64 (rdT k L)) (after 64 (rdT k L)) && decide (line k (before 64 (rdT k L)) (after 64 (rdT k L)) = L)) := by unfold rdv; rw [if_neg h1, if_neg h4]
      rw [hv]
      have h64 : (64 : UInt8) ∈ rdT k L := Classical.byContradiction fun h => h4 h
      have hal := after_len h64
      have hd3 : decide (((before 64 (rdT k L)).length : Int) = ((rdT k L).length : Int)) = false := decide_eq_false (by omega)
      have hdr : (rdT k L).drop ((before 64 (rdT k L)).length + 1) = after 64 (rdT k L) := (after_drop h64).symm
      have hG := l27Good_fn (before 64 (rdT k L)) (after 64 (rdT k L)) (by rw [maxLen_eq]; omega) (by rw [maxLen_eq]; omega)
      by_cases hok : recOK (before 64 (rdT k L)) (after 64 (rdT k L)) = true
      · have hLn := l27Line_fn k (before 64 (rdT k L)) (after 64 (rdT k L)) h0 hk hok
        rw [hok] at hG ⊢
        have hle : decide (line k (before 64 (rdT k L)) (after 64 (rdT k L)) ++ [10] = L ++ [10]) = decide (line k (before 64 (rdT k L)) (after 64 (rdT k L)) = L) := decide_eq_decide.2 ⟨List.append_cancel_right, fun h => by rw [h]⟩
        rw [← hle]
        have hcc : ((before 64 (rdT k L)).length : Int) + 1 = (((before 64 (rdT k L)).length + 1 : Nat) : Int) := rfl
        generalize before 64 (rdT k L) = C at *
        generalize after 64 (rdT k L) = R at *
        generalize rdT k L = T2 at *
        generalize before 35 L = T at *
        refine Fn_ofg (ps := [[1, 1, 1, 1, 1, 1, 1, 1, 0]]) (fn := f62) (by exact func62) c62 r62 (n := 64) (by rfl) (rv := [.cell 4 42, .tmp 5]) (by rfl) (by simp) ?_
        unfold m62
        simp only [ghAll, ghAt]
        repeat' (first
            | (simp only [dl_nth, hp0, hp1, Option.map_some, onC_true, Int.toNat_natCast, Int.toNat_zero, hd, hd2, hr, hd3, hdr, hcc, ↓wA, ↓wC, wB, frzBE, frzBS, Nat.reduceEqDiff, Nat.reduceAdd, Nat.reduceSub, reduceIte, reduceCtorEq, Nat.reduceBEq, Nat.reduceLT, decide_true, sz42])
            | (refine call_det (hS2) rfl rfl ?_)
            | (refine callP_det (hS2) rfl rfl ?_)
            | (refine call_det (hG) rfl rfl ?_)
            | (refine callP_det (hG) rfl rfl ?_)
            | (refine call_det (hLn) rfl rfl ?_)
            | (refine callP_det (hLn) rfl rfl ?_)
            | (refine onJ_q ?_)
            | (with_reducible refine onI_bare ?_ ?_; focus (simp only [InR]; omega))
            | (refine call_det (hN) rfl rfl ?_)
            | (refine callP_det (hN) rfl rfl ?_)
            | (refine call_det (hS) rfl rfl ?_)
            | (refine callP_det (hS) rfl rfl ?_)
            | (with_reducible refine onC_i ?_ ?_; focus omega)
            | (with_reducible refine onC_i ?_ ?_; focus (simp only [List.length_append, List.length_singleton]; omega))
            | (refine execG_split (fun h => ?_) (fun h => ?_) <;> simp only [h])
            | (refine execC_split (fun h => ?_) (fun h => ?_) <;> (try simp only [h]))
            | (refine onPick_split (fun h => ?_) (fun h => ?_) <;> (try simp only [h])))
        refine exec_gh1 (frzB 3 rfl) ?_
        simp only [D.unown, ↓wA, ↓wC, wB, frzBE, frzBS, Nat.reduceEqDiff, Nat.reduceAdd, Nat.reduceSub, reduceIte, reduceCtorEq, Nat.reduceBEq, Nat.reduceLT, decide_true, sz42]
        repeat' (first
            | (simp only [dl_nth, hp0, hp1, Option.map_some, onC_true, Int.toNat_natCast, Int.toNat_zero, hd, hd2, hr, hd3, hdr, hcc, ↓wA, ↓wC, wB, frzBE, frzBS, Nat.reduceEqDiff, Nat.reduceAdd, Nat.reduceSub, reduceIte, reduceCtorEq, Nat.reduceBEq, Nat.reduceLT, decide_true, sz42])
            | (refine call_det (hS2) rfl rfl ?_)
            | (refine callP_det (hS2) rfl rfl ?_)
            | (refine call_det (hG) rfl rfl ?_)
            | (refine callP_det (hG) rfl rfl ?_)
            | (refine call_det (hLn) rfl rfl ?_)
            | (refine callP_det (hLn) rfl rfl ?_)
            | (refine onJ_q ?_)
            | (with_reducible refine onI_bare ?_ ?_; focus (simp only [InR]; omega))
            | (refine call_det (hN) rfl rfl ?_)
            | (refine callP_det (hN) rfl rfl ?_)
            | (refine call_det (hS) rfl rfl ?_)
            | (refine callP_det (hS) rfl rfl ?_)
            | (with_reducible refine onC_i ?_ ?_; focus omega)
            | (with_reducible refine onC_i ?_ ?_; focus (simp only [List.length_append, List.length_singleton]; omega))
            | (refine execG_split (fun h => ?_) (fun h => ?_) <;> simp only [h])
            | (refine execC_split (fun h => ?_) (fun h => ?_) <;> (try simp only [h]))
            | (refine onPick_split (fun h => ?_) (fun h => ?_) <;> (try simp only [h])))
        all_goals rfl
      · rw [Bool.not_eq_true] at hok
        rw [hok] at hG ⊢
        have hcc : ((before 64 (rdT k L)).length : Int) + 1 = (((before 64 (rdT k L)).length + 1 : Nat) : Int) := rfl
        generalize before 64 (rdT k L) = C at *
        generalize after 64 (rdT k L) = R at *
        generalize rdT k L = T2 at *
        generalize before 35 L = T at *
        refine Fn_ofg (ps := [[1, 1, 1, 1, 1, 1, 1, 1, 0]]) (fn := f62) (by exact func62) c62 r62 (n := 64) (by rfl) (rv := [.cell 4 42, .tmp 5]) (by rfl) (by simp) ?_
        unfold m62
        simp only [ghAll, ghAt]
        repeat' (first
            | (simp only [dl_nth, hp0, hp1, Option.map_some, onC_true, Int.toNat_natCast, Int.toNat_zero, hd, hd2, hr, hd3, hdr, hcc, ↓wA, ↓wC, wB, frzBE, frzBS, Nat.reduceEqDiff, Nat.reduceAdd, Nat.reduceSub, reduceIte, reduceCtorEq, Nat.reduceBEq, Nat.reduceLT, decide_true, sz42])
            | (refine call_det (hS2) rfl rfl ?_)
            | (refine callP_det (hS2) rfl rfl ?_)
            | (refine call_det (hG) rfl rfl ?_)
            | (refine callP_det (hG) rfl rfl ?_)
            | (refine onJ_q ?_)
            | (with_reducible refine onI_bare ?_ ?_; focus (simp only [InR]; omega))
            | (refine call_det (hN) rfl rfl ?_)
            | (refine callP_det (hN) rfl rfl ?_)
            | (refine call_det (hS) rfl rfl ?_)
            | (refine callP_det (hS) rfl rfl ?_)
            | (with_reducible refine onC_i ?_ ?_; focus omega)
            | (with_reducible refine onC_i ?_ ?_; focus (simp only [List.length_append, List.length_singleton]; omega))
            | (refine execG_split (fun h => ?_) (fun h => ?_) <;> simp only [h])
            | (refine execC_split (fun h => ?_) (fun h => ?_) <;> (try simp only [h]))
            | (refine onPick_split (fun h => ?_) (fun h => ?_) <;> (try simp only [h])))
        refine exec_gh1 (frzB 3 rfl) ?_
        simp only [D.unown, ↓wA, ↓wC, wB, frzBE, frzBS, Nat.reduceEqDiff, Nat.reduceAdd, Nat.reduceSub, reduceIte, reduceCtorEq, Nat.reduceBEq, Nat.reduceLT, decide_true, sz42]
        repeat' (first
            | (simp only [dl_nth, hp0, hp1, Option.map_some, onC_true, Int.toNat_natCast, Int.toNat_zero, hd, hd2, hr, hd3, hdr, hcc, ↓wA, ↓wC, wB, frzBE, frzBS, Nat.reduceEqDiff, Nat.reduceAdd, Nat.reduceSub, reduceIte, reduceCtorEq, Nat.reduceBEq, Nat.reduceLT, decide_true, sz42])
            | (refine call_det (hS2) rfl rfl ?_)
            | (refine callP_det (hS2) rfl rfl ?_)
            | (refine call_det (hG) rfl rfl ?_)
            | (refine callP_det (hG) rfl rfl ?_)
            | (refine onJ_q ?_)
            | (with_reducible refine onI_bare ?_ ?_; focus (simp only [InR]; omega))
            | (refine call_det (hN) rfl rfl ?_)
            | (refine callP_det (hN) rfl rfl ?_)
            | (refine call_det (hS) rfl rfl ?_)
            | (refine callP_det (hS) rfl rfl ?_)
            | (with_reducible refine onC_i ?_ ?_; focus omega)
            | (with_reducible refine onC_i ?_ ?_; focus (simp only [List.length_append, List.length_singleton]; omega))
            | (refine execG_split (fun h => ?_) (fun h => ?_) <;> simp only [h])
            | (refine execC_split (fun h => ?_) (fun h => ?_) <;> (try simp only [h]))
            | (refine onPick_split (fun h => ?_) (fun h => ?_) <;> (try simp only [h])))
        all_goals rfl
  · have hv : rdv k L = (([], []), false) := if_pos (.inr hB)
    rw [hv]
    have hd2 : decide ((before 35 L).take ((Lib.itoa k).length + 1) = Lib.itoa k ++ [32]) = false := decide_eq_false hB
    generalize before 35 L = T at *
    refine Fn_of' (fn := f62) (by exact func62) c62 r62 (n := 64) (by rfl) (rv := [.cell 4 42, .tmp 5]) (by rfl) (by simp) ?_
    unfold m62
    repeat' (first
        | (simp only [dl_nth, hp0, hp1, Option.map_some, onC_true, Int.toNat_natCast, Int.toNat_zero, hd, hd2, ↓wA, ↓wC, wB, frzBE, frzBS, Nat.reduceEqDiff, Nat.reduceAdd, Nat.reduceSub, reduceIte, reduceCtorEq, Nat.reduceBEq, Nat.reduceLT, decide_true, sz42])
        | (refine call_det (hN) rfl rfl ?_)
        | (refine callP_det (hN) rfl rfl ?_)
        | (refine call_det (hS) rfl rfl ?_)
        | (refine callP_det (hS) rfl rfl ?_)
        | (with_reducible refine onC_i ?_ ?_; focus omega)
        | (with_reducible refine onC_i ?_ ?_; focus (simp only [List.length_append, List.length_singleton]; omega))
        | (refine execG_split (fun h => ?_) (fun h => ?_) <;> simp only [h])
        | (refine execC_split (fun h => ?_) (fun h => ?_) <;> (try simp only [h]))
        | (refine onPick_split (fun h => ?_) (fun h => ?_) <;> (try simp only [h])))
    all_goals rfl
end Go.Pe.Tryd

set_option maxRecDepth 100000
set_option maxHeartbeats 4000000
set_option linter.all false
namespace Go.Pe.Tryd
open Go.Proofs.Tryd Go.Sort
def opS (s : List UInt8) (p : List (List UInt8 × List UInt8) × Nat) : St := ⟨[(0, .d (.str s)), (4, .own 0), (5, .d (.int .i64 p.2))], [.val (.sl true 2 (dl recE p.1))]⟩
theorem l27Open_fn (s : List UInt8) (hl : s.length ≤ 100000000) : Fn prog 42 [.str s] (fun rs => rs = [.sl true 2 (dl recE (opens 60 0 s).1), .int .i64 ((opens 60 0 s).2 : Nat)]) := by
  refine Fn_of' (fn := f42) (by exact func42) c42 r42 (n := 52) (by rfl) (rv := [.tmp 2, .tmp 3]) (by rfl) (by simp) ?_
  unfold m42
  repeat' (first
      | (simp only [onC_true, ↓wA, ↓wC, wB, frzBE, frzBS, Nat.reduceEqDiff, Nat.reduceAdd, Nat.reduceSub, reduceIte, reduceCtorEq, Nat.reduceBEq, Nat.reduceLT, decide_true])
      | (refine execG_split (fun h => ?_) (fun h => ?_) <;> simp only [h])
      | (refine execC_split (fun h => ?_) (fun h => ?_) <;> (try simp only [h]))
      | (refine onPick_split (fun h => ?_) (fun h => ?_) <;> (try simp only [h])))
  refine exec_loop (opS s) (Reads s) (fun p => 60 - p.1.length) ([], 0) ?_ (Reads.start s) ?_
  · exact (weak_of _ rfl ⟨⟨rfl, rfl⟩, ⟨rfl, rfl⟩, ⟨rfl, rfl⟩, trivial⟩)
  intro p hp
  have hpl := hp.pos
  have h60 := hp.len
  have hE := opens_le 60 0 s
  unfold opS
  by_cases hend : p.2 < s.length
  · have hd0 : decide ((p.2 : Int) < (s.length : Int)) = true := decide_eq_true (by omega)
    by_cases hlt : p.1.length < 60
    · have hd : decide ((p.1.length : Int) < 60) = true := decide_eq_true (by omega)
      have hdr : (s.drop p.2).length ≤ 100000000 := by rw [List.length_drop]; omega
      have hS := l1Split_fn (s.drop p.2) 10 (by omega)
      have hp0 := parts_head 10 (s.drop p.2)
      have hbl := before_le 10 (s.drop p.2)
      have hR := l27Read_fn (p.1.length : Int) (before 10 (s.drop p.2)) (by omega) (small_i64 h60) (by omega)
      have hrd := rdv_rd (p.1.length : Int) (before 10 (s.drop p.2))
      have h2 := parts_two 10 (s.drop p.2)
      by_cases h10 : (10 : UInt8) ∈ s.drop p.2
      · have hd2 : decide (((parts 10 (s.drop p.2)).length : Int) < 2) = false := decide_eq_false (by
          have h3 : ¬ (parts 10 (s.drop p.2)).length < 2 := fun h => h2.1 h h10
          omega)
        have hal := after_len h10
        rw [List.length_drop] at hal
        cases hv : (rdv (p.1.length : Int) (before 10 (s.drop p.2))).2 with
        | true =>
          rw [hv] at hR hrd
          simp only [if_true] at hrd
          have hnx := hp.next hlt h10 hrd
          generalize (rdv (p.1.length : Int) (before 10 (s.drop p.2))).1 = e at *
          generalize before 10 (s.drop p.2) = L at *
          simp only [recE] at hR
          repeat' (first
              | (simp only [hd0, hd, hd2, hp0, dl_len, dl_nth, Option.map_some, onC_true, Int.toNat_natCast, Int.toNat_zero, ↓wA, ↓wC, wB, frzBE, frzBS, Nat.reduceEqDiff, Nat.reduceAdd, Nat.reduceSub, reduceIte, reduceCtorEq, Nat.reduceBEq, Nat.reduceLT, decide_true])
              | (refine call_det (hS) rfl rfl ?_)
              | (refine callP_det (hS) rfl rfl ?_)
              | (refine call_det (hR) rfl rfl ?_)
              | (refine callP_det (hR) rfl rfl ?_)
              | (with_reducible refine onC_i ?_ ?_; focus omega)
              | (with_reducible refine onC_i ?_ ?_; focus (simp; done))
              | (with_reducible refine onI_bare ?_ ?_; focus (simp only [InR]; omega))
              | (refine execG_split (fun h => ?_) (fun h => ?_) <;> simp only [h])
              | (refine execC_split (fun h => ?_) (fun h => ?_) <;> (try simp only [h]))
              | (refine onPick_split (fun h => ?_) (fun h => ?_) <;> (try simp only [h])))
          all_goals
            have hcast : (p.2 : Int) + L.length + 1 = ((p.2 + (L.length + 1) : Nat) : Int) := by omega
            refine ⟨(p.1 ++ [e], p.2 + (L.length + 1)), ?_, hnx, by simp only [List.length_append, List.length_singleton]; omega⟩
            rw [hcast, dl_rec]
            exact (weak_of _ rfl ⟨⟨rfl, rfl⟩, ⟨rfl, rfl⟩, ⟨rfl, rfl⟩, trivial⟩)
        | false =>
          rw [hv] at hR hrd
          have hst := hp.stopRd hrd
          generalize (rdv (p.1.length : Int) (before 10 (s.drop p.2))).1 = e at *
          generalize before 10 (s.drop p.2) = L at *
          simp only [recE] at hR
          repeat' (first
              | (simp only [hd0, hd, hd2, hp0, dl_len, dl_nth, Option.map_some, onC_true, Int.toNat_natCast, Int.toNat_zero, ↓wA, ↓wC, wB, frzBE, frzBS, Nat.reduceEqDiff, Nat.reduceAdd, Nat.reduceSub, reduceIte, reduceCtorEq, Nat.reduceBEq, Nat.reduceLT, decide_true])
              | (refine call_det (hS) rfl rfl ?_)
              | (refine callP_det (hS) rfl rfl ?_)
              | (refine call_det (hR) rfl rfl ?_)
              | (refine callP_det (hR) rfl rfl ?_)
              | (with_reducible refine onC_i ?_ ?_; focus omega)
              | (with_reducible refine onC_i ?_ ?_; focus (simp; done))
              | (refine execG_split (fun h => ?_) (fun h => ?_) <;> simp only [h])
              | (refine execC_split (fun h => ?_) (fun h => ?_) <;> (try simp only [h]))
              | (refine onPick_split (fun h => ?_) (fun h => ?_) <;> (try simp only [h])))
          all_goals (rw [hst])
      · have hd2 : decide (((parts 10 (s.drop p.2)).length : Int) < 2) = true := decide_eq_true (by
          have h3 := h2.2 h10
          omega)
        have hst := hp.stop10 h10
        generalize rdv (p.1.length : Int) (before 10 (s.drop p.2)) = e at *
        generalize before 10 (s.drop p.2) = L at *
        simp only [recE] at hR
        repeat' (first
            | (simp only [hd0, hd, hd2, hp0, dl_len, dl_nth, Option.map_some, onC_true, Int.toNat_natCast, Int.toNat_zero, ↓wA, ↓wC, wB, frzBE, frzBS, Nat.reduceEqDiff, Nat.reduceAdd, Nat.reduceSub, reduceIte, reduceCtorEq, Nat.reduceBEq, Nat.reduceLT, decide_true])
            | (refine call_det (hS) rfl rfl ?_)
            | (refine callP_det (hS) rfl rfl ?_)
            | (refine call_det (hR) rfl rfl ?_)
            | (refine callP_det (hR) rfl rfl ?_)
            | (with_reducible refine onC_i ?_ ?_; focus omega)
            | (with_reducible refine onC_i ?_ ?_; focus (simp; done))
            | (refine execG_split (fun h => ?_) (fun h => ?_) <;> simp only [h])
            | (refine execC_split (fun h => ?_) (fun h => ?_) <;> (try simp only [h]))
            | (refine onPick_split (fun h => ?_) (fun h => ?_) <;> (try simp only [h])))
        all_goals (rw [hst])
    · have hd : decide ((p.1.length : Int) < 60) = false := decide_eq_false (by omega)
      have hst := hp.stopLen hlt
      repeat' (first
          | (simp only [hd0, hd, dl_len, onC_true, Int.toNat_natCast, ↓wA, ↓wC, wB, frzBE, frzBS, Nat.reduceEqDiff, Nat.reduceAdd, Nat.reduceSub, reduceIte, reduceCtorEq, Nat.reduceBEq, Nat.reduceLT, decide_true])
          | (refine execG_split (fun h => ?_) (fun h => ?_) <;> simp only [h])
          | (refine execC_split (fun h => ?_) (fun h => ?_) <;> (try simp only [h]))
          | (refine onPick_split (fun h => ?_) (fun h => ?_) <;> (try simp only [h])))
      all_goals (rw [hst])
  · have hd0 : decide ((p.2 : Int) < (s.length : Int)) = false := decide_eq_false (by omega)
    have hst := hp.stopEnd hend
    repeat' (first
        | (simp only [hd0, dl_len, onC_true, Int.toNat_natCast, ↓wA, ↓wC, wB, frzBE, frzBS, Nat.reduceEqDiff, Nat.reduceAdd, Nat.reduceSub, reduceIte, reduceCtorEq, Nat.reduceBEq, Nat.reduceLT, decide_true])
        | (refine execG_split (fun h => ?_) (fun h => ?_) <;> simp only [h])
        | (refine execC_split (fun h => ?_) (fun h => ?_) <;> (try simp only [h]))
        | (refine onPick_split (fun h => ?_) (fun h => ?_) <;> (try simp only [h])))
    all_goals (rw [hst])
end Go.Pe.Tryd

set_option maxRecDepth 100000
set_option maxHeartbeats 4000000
set_option linter.all false
namespace Go.Pe.Tryd
open Go.Proofs.Tryd Go.Sort
def logD (d p : List UInt8) (c : Int) : D := .st (.cons (.str d) (.cons (.str p) (.cons (.int .i64 c) .nil)))
/-- a log recovered from bytes. -/
def recov (s : List UInt8) : List D := if s.length ≤ 30000 then [logD (s.take (opens 60 0 s).2) [] ((opens 60 0 s).1.length : Nat), .int .i64 ((opens 60 0 s).2 : Nat), .bool true] else [logD [] [] 0, .int .i64 0, .bool false]
theorem implRecover_fn (s : List UInt8) (hl : s.length ≤ 100000000) : Fn prog 34 [.str s] (fun rs => rs = recov s) := by
  have hE := opens_le 60 0 s
  by_cases h : s.length ≤ 30000
  · have hR := readRecords_fn s hl
    have hd : decide ((s.length : Int) > 30000) = false := decide_eq_false (by omega)
    have hd' : decide ((30000 : Int) < (s.length : Int)) = false := decide_eq_false (by omega)
    unfold recov
    rw [if_pos h]
    refine Fn_of' (fn := f34) (by exact func34) c34 r34 (n := 23) (by rfl) (rv := [.cell 2 26, .tmp 3, .tmp 4]) (by rfl) (by simp) ?_
    unfold m34
    simp only [logD]
    repeat' (first
        | (simp only [hd, hd', dl_len, onC_true, Int.toNat_natCast, ↓wA, ↓wC, wB, frzBE, frzBS, Nat.reduceEqDiff, Nat.reduceAdd, Nat.reduceSub, reduceIte, reduceCtorEq, Nat.reduceBEq, Nat.reduceLT, decide_true, sz26])
        | (refine call_det (hR) rfl rfl ?_)
        | (refine callP_det (hR) rfl rfl ?_)
        | (with_reducible refine onC_i ?_ ?_; focus omega)
        | (refine execG_split (fun h => ?_) (fun h => ?_) <;> simp only [h])
        | (refine execC_split (fun h => ?_) (fun h => ?_) <;> (try simp only [h]))
        | (refine onPick_split (fun h => ?_) (fun h => ?_) <;> (try simp only [h])))
    all_goals rfl
  · have hd : decide ((s.length : Int) > 30000) = true := decide_eq_true (by omega)
    have hd' : decide ((30000 : Int) < (s.length : Int)) = true := decide_eq_true (by omega)
    unfold recov
    rw [if_neg h]
    refine Fn_of' (fn := f34) (by exact func34) c34 r34 (n := 23) (by rfl) (rv := [.cell 2 26, .tmp 3, .tmp 4]) (by rfl) (by simp) ?_
    unfold m34
    simp only [logD]
    repeat' (first
        | (simp only [hd, hd', ↓wA, ↓wC, wB, frzBE, frzBS, Nat.reduceEqDiff, Nat.reduceAdd, Nat.reduceSub, reduceIte, reduceCtorEq, Nat.reduceBEq, Nat.reduceLT, decide_true, sz26])
        | (refine execG_split (fun h => ?_) (fun h => ?_) <;> simp only [h])
        | (refine execC_split (fun h => ?_) (fun h => ?_) <;> (try simp only [h]))
        | (refine onPick_split (fun h => ?_) (fun h => ?_) <;> (try simp only [h])))
    all_goals rfl
theorem specRecover_fn (s : List UInt8) (hl : s.length ≤ 100000000) : Fn prog 35 [.str s] (fun rs => rs = recov s) := by
  have hE := opens_le 60 0 s
  by_cases h : s.length ≤ 30000
  · have hR := l27Open_fn s hl
    have hd : decide ((s.length : Int) > 30000) = false := decide_eq_false (by omega)
    have hd' : decide ((30000 : Int) < (s.length : Int)) = false := decide_eq_false (by omega)
    unfold recov
    rw [if_pos h]
    refine Fn_of' (fn := f35) (by exact func35) c35 r35 (n := 23) (by rfl) (rv := [.cell 2 26, .tmp 3, .tmp 4]) (by rfl) (by simp) ?_
    unfold m35
    simp only [logD]
    repeat' (first
        | (simp only [hd, hd', dl_len, onC_true, Int.toNat_natCast, ↓wA, ↓wC, wB, frzBE, frzBS, Nat.reduceEqDiff, Nat.reduceAdd, Nat.reduceSub, reduceIte, reduceCtorEq, Nat.reduceBEq, Nat.reduceLT, decide_true, sz26])
        | (refine call_det (hR) rfl rfl ?_)
        | (refine callP_det (hR) rfl rfl ?_)
        | (with_reducible refine onC_i ?_ ?_; focus omega)
        | (refine execG_split (fun h => ?_) (fun h => ?_) <;> simp only [h])
        | (refine execC_split (fun h => ?_) (fun h => ?_) <;> (try simp only [h]))
        | (refine onPick_split (fun h => ?_) (fun h => ?_) <;> (try simp only [h])))
    all_goals rfl
  · have hd : decide ((s.length : Int) > 30000) = true := decide_eq_true (by omega)
    have hd' : decide ((30000 : Int) < (s.length : Int)) = true := decide_eq_true (by omega)
    unfold recov
    rw [if_neg h]
    refine Fn_of' (fn := f35) (by exact func35) c35 r35 (n := 23) (by rfl) (rv := [.cell 2 26, .tmp 3, .tmp 4]) (by rfl) (by simp) ?_
    unfold m35
    simp only [logD]
    repeat' (first
        | (simp only [hd, hd', ↓wA, ↓wC, wB, frzBE, frzBS, Nat.reduceEqDiff, Nat.reduceAdd, Nat.reduceSub, reduceIte, reduceCtorEq, Nat.reduceBEq, Nat.reduceLT, decide_true, sz26])
        | (refine execG_split (fun h => ?_) (fun h => ?_) <;> simp only [h])
        | (refine execC_split (fun h => ?_) (fun h => ?_) <;> (try simp only [h]))
        | (refine onPick_split (fun h => ?_) (fun h => ?_) <;> (try simp only [h])))
    all_goals rfl
/-- is it a log? -/
def lv (d p : List UInt8) (c : Int) : Bool := decide (((opens 60 0 (d ++ p)).2 : Int) = ((d ++ p).length : Nat)) && decide (((opens 60 0 d).2 : Int) = (d.length : Nat)) && decide (c = ((opens 60 0 (d ++ p)).1.length : Nat))
def recsOf (d p : List UInt8) : List (List UInt8 × List UInt8) := (opens 60 0 (d ++ p)).1
theorem lv_short {d p : List UInt8} {c : Int} (h : lv d p c = true) : d.length + p.length ≤ 30000 := by
  simp only [lv, Bool.and_eq_true, decide_eq_true_eq] at h
  have hB := opens_short (B := 430) (fun k c r h0 h1 hok => line_len (by simp only [InR]; omega) hok) 60 0 (d ++ p) (by omega) (by omega)
  have := h.1.1
  rw [List.length_append] at this
  omega
theorem recordsOf_fn (d p : List UInt8) (c : Int) (hl : d.length + p.length ≤ 100000000) : Fn prog 41 [logD d p c] (fun rs => rs = [.sl true 2 (dl recE (recsOf d p)), .bool (lv d p c)]) := by
  have hA := readRecords_fn (d ++ p) (by rw [List.length_append]; omega)
  have hD := readRecords_fn d (by omega)
  refine Fn_of' (fn := f41) (by exact func41) c41 r41 (n := 44) (by rfl) (rv := [.tmp 2, .tmp 3]) (by rfl) (by simp) ?_
  unfold m41
  simp only [logD]
  repeat' (first
      | (simp only [dl_len, onC_true, ↓wA, ↓wC, wB, frzBE, frzBS, Nat.reduceEqDiff, Nat.reduceAdd, Nat.reduceSub, reduceIte, reduceCtorEq, Nat.reduceBEq, Nat.reduceLT, decide_true, sz26])
      | (refine call_det (hA) rfl rfl ?_)
      | (refine callP_det (hA) rfl rfl ?_)
      | (refine call_det (hD) rfl rfl ?_)
      | (refine callP_det (hD) rfl rfl ?_)
      | (with_reducible refine onC_i ?_ ?_; focus (simp only [List.length_append]; omega))
      | (with_reducible refine onC_i ?_ ?_; focus omega)
      | (refine execG_split (fun h => ?_) (fun h => ?_) <;> simp only [h])
      | (refine execC_split (fun h => ?_) (fun h => ?_) <;> (try simp only [h]))
      | (refine onPick_split (fun h => ?_) (fun h => ?_) <;> (try simp only [h])))
  all_goals (unfold recsOf lv; simp_all [List.length_append])
theorem isValidLog_fn (d p : List UInt8) (c : Int) (hl : d.length + p.length ≤ 100000000) : Fn prog 14 [logD d p c] (fun rs => rs = [.bool (lv d p c)]) := by
  have hR := recordsOf_fn d p c hl
  refine Fn_of' (fn := f14) (by exact func14) c14 r14 (n := 11) (by rfl) (rv := [.tmp 2]) (by rfl) (by simp) ?_
  unfold m14
  simp only [logD] at hR ⊢
  repeat' (first
      | (simp only [↓wA, ↓wC, wB, frzBE, frzBS, Nat.reduceEqDiff, Nat.reduceAdd, Nat.reduceSub, reduceIte, reduceCtorEq, Nat.reduceBEq, Nat.reduceLT, decide_true, sz26])
      | (refine call_det (hR) rfl rfl ?_)
      | (refine callP_det (hR) rfl rfl ?_)
      | (refine execG_split (fun h => ?_) (fun h => ?_) <;> simp only [h])
      | (refine execC_split (fun h => ?_) (fun h => ?_) <;> (try simp only [h]))
      | (refine onPick_split (fun h => ?_) (fun h => ?_) <;> (try simp only [h])))
theorem l27Log_fn (d p : List UInt8) (c : Int) (hl : d.length + p.length ≤ 100000000) : Fn prog 40 [logD d p c] (fun rs => rs = [.bool (lv d p c)]) := by
  have hA := l27Open_fn (d ++ p) (by rw [List.length_append]; omega)
  have hD := l27Open_fn d (by omega)
  refine Fn_of' (fn := f40) (by exact func40) c40 r40 (n := 53) (by rfl) (rv := [.tmp 2]) (by rfl) (by simp) ?_
  unfold m40
  simp only [logD]
  repeat' (first
      | (simp only [dl_len, onC_true, ↓wA, ↓wC, wB, frzBE, frzBS, Nat.reduceEqDiff, Nat.reduceAdd, Nat.reduceSub, reduceIte, reduceCtorEq, Nat.reduceBEq, Nat.reduceLT, decide_true, sz26])
      | (refine call_det (hA) rfl rfl ?_)
      | (refine callP_det (hA) rfl rfl ?_)
      | (refine call_det (hD) rfl rfl ?_)
      | (refine callP_det (hD) rfl rfl ?_)
      | (with_reducible refine onC_i ?_ ?_; focus (simp only [List.length_append]; omega))
      | (with_reducible refine onC_i ?_ ?_; focus omega)
      | (with_reducible refine onI_bare ?_ ?_; focus (simp only [InR]; omega))
      | (refine execG_split (fun h => ?_) (fun h => ?_) <;> simp only [h])
      | (refine execC_split (fun h => ?_) (fun h => ?_) <;> (try simp only [h]))
      | (refine onPick_split (fun h => ?_) (fun h => ?_) <;> (try simp only [h])))
  all_goals
    by_cases hs : d.length + p.length ≤ 30000
    · first
        | (exfalso; simp only [decide_eq_true_eq] at *; omega)
        | (unfold lv; rw [show ((d ++ p).length : Int) = (d.length : Int) + p.length by simp, show decide (c = ((opens 60 0 (d ++ p)).1.length : Int)) = decide (((opens 60 0 (d ++ p)).1.length : Int) = c) from decide_eq_decide.2 eq_comm]; simp_all)
    · have hf : lv d p c = false := by
        cases hlv : lv d p c with
        | false => rfl
        | true => exact absurd (lv_short hlv) hs
      first
        | (exfalso; simp only [decide_eq_true_eq, decide_eq_false_iff_not] at *; omega)
        | (rw [hf])
def syncR (d p : List UInt8) (c : Int) : List D := if lv d p c = true then [logD (d ++ p) [] c, .bool true] else [logD [] [] 0, .bool false]
theorem implSync_fn (d p : List UInt8) (c : Int) (hl : d.length + p.length ≤ 100000000) : Fn prog 16 [logD d p c] (fun rs => rs = syncR d p c) := by
  have hV := isValidLog_fn d p c hl
  unfold syncR
  cases hv : lv d p c with
  | true =>
    rw [hv] at hV
    refine Fn_of' (fn := f16) (by exact func16) c16 r16 (n := 16) (by rfl) (rv := [.cell 2 26, .tmp 3]) (by rfl) (by simp) ?_
    unfold m16
    simp only [logD] at hV ⊢
    repeat' (first
        | (simp only [onC_true, ↓wA, ↓wC, wB, frzBE, frzBS, Nat.reduceEqDiff, Nat.reduceAdd, Nat.reduceSub, reduceIte, reduceCtorEq, Nat.reduceBEq, Nat.reduceLT, decide_true, sz26])
        | (refine call_det (hV) rfl rfl ?_)
        | (refine callP_det (hV) rfl rfl ?_)
        | (with_reducible refine onC_i ?_ ?_; focus omega)
        | (refine execG_split (fun h => ?_) (fun h => ?_) <;> simp only [h])
        | (refine execC_split (fun h => ?_) (fun h => ?_) <;> (try simp only [h]))
        | (refine onPick_split (fun h => ?_) (fun h => ?_) <;> (try simp only [h])))
    all_goals rfl
  | false =>
    rw [hv] at hV
    refine Fn_of' (fn := f16) (by exact func16) c16 r16 (n := 16) (by rfl) (rv := [.cell 2 26, .tmp 3]) (by rfl) (by simp) ?_
    unfold m16
    simp only [logD] at hV ⊢
    repeat' (first
        | (simp only [onC_true, ↓wA, ↓wC, wB, frzBE, frzBS, Nat.reduceEqDiff, Nat.reduceAdd, Nat.reduceSub, reduceIte, reduceCtorEq, Nat.reduceBEq, Nat.reduceLT, decide_true, sz26])
        | (refine call_det (hV) rfl rfl ?_)
        | (refine callP_det (hV) rfl rfl ?_)
        | (refine execG_split (fun h => ?_) (fun h => ?_) <;> simp only [h])
        | (refine execC_split (fun h => ?_) (fun h => ?_) <;> (try simp only [h]))
        | (refine onPick_split (fun h => ?_) (fun h => ?_) <;> (try simp only [h])))
    all_goals rfl
theorem specSync_fn (d p : List UInt8) (c : Int) (hl : d.length + p.length ≤ 100000000) : Fn prog 15 [logD d p c] (fun rs => rs = syncR d p c) := by
  have hV := l27Log_fn d p c hl
  unfold syncR
  cases hv : lv d p c with
  | true =>
    rw [hv] at hV
    refine Fn_of' (fn := f15) (by exact func15) c15 r15 (n := 16) (by rfl) (rv := [.cell 2 26, .tmp 3]) (by rfl) (by simp) ?_
    unfold m15
    simp only [logD] at hV ⊢
    repeat' (first
        | (simp only [onC_true, ↓wA, ↓wC, wB, frzBE, frzBS, Nat.reduceEqDiff, Nat.reduceAdd, Nat.reduceSub, reduceIte, reduceCtorEq, Nat.reduceBEq, Nat.reduceLT, decide_true, sz26])
        | (refine call_det (hV) rfl rfl ?_)
        | (refine callP_det (hV) rfl rfl ?_)
        | (with_reducible refine onC_i ?_ ?_; focus omega)
        | (refine execG_split (fun h => ?_) (fun h => ?_) <;> simp only [h])
        | (refine execC_split (fun h => ?_) (fun h => ?_) <;> (try simp only [h]))
        | (refine onPick_split (fun h => ?_) (fun h => ?_) <;> (try simp only [h])))
    all_goals rfl
  | false =>
    rw [hv] at hV
    refine Fn_of' (fn := f15) (by exact func15) c15 r15 (n := 16) (by rfl) (rv := [.cell 2 26, .tmp 3]) (by rfl) (by simp) ?_
    unfold m15
    simp only [logD] at hV ⊢
    repeat' (first
        | (simp only [onC_true, ↓wA, ↓wC, wB, frzBE, frzBS, Nat.reduceEqDiff, Nat.reduceAdd, Nat.reduceSub, reduceIte, reduceCtorEq, Nat.reduceBEq, Nat.reduceLT, decide_true, sz26])
        | (refine call_det (hV) rfl rfl ?_)
        | (refine callP_det (hV) rfl rfl ?_)
        | (refine execG_split (fun h => ?_) (fun h => ?_) <;> simp only [h])
        | (refine execC_split (fun h => ?_) (fun h => ?_) <;> (try simp only [h]))
        | (refine onPick_split (fun h => ?_) (fun h => ?_) <;> (try simp only [h])))
    all_goals rfl
end Go.Pe.Tryd

set_option maxRecDepth 100000
set_option maxHeartbeats 4000000
set_option linter.all false
namespace Go.Pe.Tryd
open Go.Proofs.Tryd Go.Sort
def appR (d p : List UInt8) (k : Int) (c r : List UInt8) : List D :=
  if lv d p k = true ∧ recOK c r = true then
    if k = 60 then [logD d p k, .int .i64 2] else [logD d (p ++ (line k c r ++ [10])) (k + 1), .int .i64 0]
  else [logD d p k, .int .i64 1]
theorem lv_count {d p : List UInt8} {k : Int} (h : lv d p k = true) : 0 ≤ k ∧ k ≤ 60 := by
  have hE := opens_le 60 0 (d ++ p)
  simp only [lv, Bool.and_eq_true, decide_eq_true_eq] at h
  omega
theorem specAppend_fn (d p : List UInt8) (k : Int) (c r : List UInt8) (hl : d.length + p.length ≤ 1048576) (hc : c.length ≤ maxLen) (hr : r.length ≤ maxLen) : Fn prog 24 [logD d p k, recD c r] (fun rs => rs = appR d p k c r) := by
  have hV := l27Log_fn d p k (by omega)
  have hI := l27Good_fn c r hc hr
  unfold appR
  cases hv : lv d p k with
  | false =>
    rw [hv] at hV
    refine Fn_of' (fn := f24) (by exact func24) c24 r24 (n := 32) (by rfl) (rv := [.cell 4 26, .tmp 5]) (by rfl) (by simp) ?_
    unfold m24
    simp only [logD, recD] at hV ⊢
    repeat' (first
        | (simp only [↓wA, ↓wC, wB, frzBE, frzBS, Nat.reduceEqDiff, Nat.reduceAdd, Nat.reduceSub, reduceIte, reduceCtorEq, Nat.reduceBEq, Nat.reduceLT, decide_true, sz26])
        | (refine call_det (hV) rfl rfl ?_)
        | (refine callP_det (hV) rfl rfl ?_)
        | (refine execG_split (fun h => ?_) (fun h => ?_) <;> simp only [h])
        | (refine execC_split (fun h => ?_) (fun h => ?_) <;> (try simp only [h]))
        | (refine onPick_split (fun h => ?_) (fun h => ?_) <;> (try simp only [h])))
    all_goals simp
  | true =>
    rw [hv] at hV
    have hk := lv_count hv
    cases hok : recOK c r with
    | false =>
      rw [hok] at hI
      refine Fn_of' (fn := f24) (by exact func24) c24 r24 (n := 32) (by rfl) (rv := [.cell 4 26, .tmp 5]) (by rfl) (by simp) ?_
      unfold m24
      simp only [logD, recD] at hV hI ⊢
      repeat' (first
          | (simp only [↓wA, ↓wC, wB, frzBE, frzBS, Nat.reduceEqDiff, Nat.reduceAdd, Nat.reduceSub, reduceIte, reduceCtorEq, Nat.reduceBEq, Nat.reduceLT, decide_true, sz26])
          | (refine call_det (hV) rfl rfl ?_)
          | (refine callP_det (hV) rfl rfl ?_)
          | (refine call_det (hI) rfl rfl ?_)
          | (refine callP_det (hI) rfl rfl ?_)
          | (refine execG_split (fun h => ?_) (fun h => ?_) <;> simp only [h])
          | (refine execC_split (fun h => ?_) (fun h => ?_) <;> (try simp only [h]))
          | (refine onPick_split (fun h => ?_) (fun h => ?_) <;> (try simp only [h])))
      all_goals simp
    | true =>
      rw [hok] at hI
      by_cases h60 : k = 60
      · have hd : decide (k = 60) = true := decide_eq_true h60
        refine Fn_of' (fn := f24) (by exact func24) c24 r24 (n := 32) (by rfl) (rv := [.cell 4 26, .tmp 5]) (by rfl) (by simp) ?_
        unfold m24
        simp only [logD, recD] at hV hI ⊢
        repeat' (first
            | (simp only [hd, ↓wA, ↓wC, wB, frzBE, frzBS, Nat.reduceEqDiff, Nat.reduceAdd, Nat.reduceSub, reduceIte, reduceCtorEq, Nat.reduceBEq, Nat.reduceLT, decide_true, sz26])
            | (refine call_det (hV) rfl rfl ?_)
            | (refine callP_det (hV) rfl rfl ?_)
            | (refine call_det (hI) rfl rfl ?_)
            | (refine callP_det (hI) rfl rfl ?_)
            | (refine execG_split (fun h => ?_) (fun h => ?_) <;> simp only [h])
            | (refine execC_split (fun h => ?_) (fun h => ?_) <;> (try simp only [h]))
            | (refine onPick_split (fun h => ?_) (fun h => ?_) <;> (try simp only [h])))
        all_goals simp [h60]
      · have hd : decide (k = 60) = false := decide_eq_false h60
        have hE := l27Line_fn k c r hk.1 (by simp only [InR]; omega) hok
        have hll := line_len (k := k) (by simp only [InR]; omega) hok
        refine Fn_of' (fn := f24) (by exact func24) c24 r24 (n := 32) (by rfl) (rv := [.cell 4 26, .tmp 5]) (by rfl) (by simp) ?_
        unfold m24
        simp only [logD, recD] at hV hI hE ⊢
        repeat' (first
            | (simp only [hd, onC_true, ↓wA, ↓wC, wB, frzBE, frzBS, Nat.reduceEqDiff, Nat.reduceAdd, Nat.reduceSub, reduceIte, reduceCtorEq, Nat.reduceBEq, Nat.reduceLT, decide_true, sz26])
            | (refine call_det (hV) rfl rfl ?_)
            | (refine callP_det (hV) rfl rfl ?_)
            | (refine call_det (hI) rfl rfl ?_)
            | (refine callP_det (hI) rfl rfl ?_)
            | (refine call_det (hE) rfl rfl ?_)
            | (refine callP_det (hE) rfl rfl ?_)
            | (refine onJ_q ?_)
            | (with_reducible refine onC_i ?_ ?_; focus ((try simp only [List.length_append, List.length_singleton]); omega))
            | (with_reducible refine onI_bare ?_ ?_; focus (simp only [InR]; omega))
            | (refine execG_split (fun h => ?_) (fun h => ?_) <;> simp only [h])
            | (refine execC_split (fun h => ?_) (fun h => ?_) <;> (try simp only [h]))
            | (refine onPick_split (fun h => ?_) (fun h => ?_) <;> (try simp only [h])))
        all_goals simp [h60]
end Go.Pe.Tryd

set_option maxRecDepth 100000
set_option maxHeartbeats 4000000
set_option linter.all false
namespace Go.Pe.Tryd
open Go.Proofs.Tryd Go.Sort
/-- the digits of a number, the last ones apart. -/
structure Digs (k : Int) (p : Int × List UInt8) : Prop where
  lo : 0 ≤ p.1
  hi : p.1 ≤ k
  len : p.2.length ≤ 21
  eq : Lib.decDigits k.toNat = if p.1 = 0 then p.2 else Lib.decDigits p.1.toNat ++ p.2
theorem Digs.start {k : Int} (h : 0 < k) : Digs k (k, []) := ⟨by show 0 ≤ k; omega, by show k ≤ k; omega, by simp, by simp only; rw [if_neg (by omega)]; simp⟩
theorem Digs.next {k : Int} {p : Int × List UInt8} (hk : k ≤ 1000000) (h : Digs k p) (hp : 0 < p.1) : Digs k (p.1 / 10, UInt8.ofNat (48 + (p.1 % 10).toNat) :: p.2) := by
  obtain ⟨n, s⟩ := p
  have h0 : (0 : Int) < n := hp
  obtain ⟨m, rfl⟩ := Int.eq_ofNat_of_zero_le (show (0 : Int) ≤ n by omega)
  have he := h.eq
  have hh := h.hi
  simp only at he hh ⊢
  rw [if_neg (by omega), Int.toNat_natCast] at he
  have hmd : ((m : Int) % 10).toNat = m % 10 := by omega
  have hdv : ((m : Int) / 10).toNat = m / 10 := by omega
  have key : Lib.decDigits k.toNat = if (m : Int) / 10 = 0 then UInt8.ofNat (48 + m % 10) :: s else Lib.decDigits (m / 10) ++ UInt8.ofNat (48 + m % 10) :: s := by
    rw [he]
    by_cases h10 : m < 10
    · rw [decDigits_small h10, if_pos (by omega), show m % 10 = m by omega]; rfl
    · rw [decDigits_more h10, if_neg (by omega)]; simp
  have hl := decDigits_le k.toNat (by omega)
  refine ⟨by show (0 : Int) ≤ (m : Int) / 10; omega, by show (m : Int) / 10 ≤ k; omega, ?_, by simp only [hmd, hdv]; exact key⟩
  rw [key] at hl
  simp only [hmd]
  split at hl
  · exact hl
  · rw [List.length_append] at hl; omega
theorem Digs.done {k : Int} {p : Int × List UInt8} (h : Digs k p) (hp : ¬ 0 < p.1) : Lib.decDigits k.toNat = p.2 := by
  have := h.lo
  rw [h.eq, if_pos (by omega)]
end Go.Pe.Tryd

set_option maxRecDepth 100000
set_option maxHeartbeats 4000000
set_option linter.all false
namespace Go.Pe.Tryd
open Go.Proofs.Tryd Go.Sort
def byE (b : UInt8) : D := .int .u8 (b.toNat : Int)
theorem bytesDl (bs : List UInt8) : bytesD bs = dl byE bs := bytesD_dl bs
end Go.Pe.Tryd

set_option maxRecDepth 100000
set_option maxHeartbeats 4000000
set_option linter.all false
namespace Go.Pe.Tryd
theorem opens_line {n : Nat} {k : Int} {c r : List UInt8} (hok : recOK c r = true) : opens (n + 1) k (line k c r ++ [10]) = ([(c, r)], (line k c r).length + 1) := by
  have h10 : (10 : UInt8) ∈ line k c r ++ [10] := by simp
  have hb : before 10 (line k c r ++ [10]) = line k c r := before_app (line_no10 hok)
  have ha : after 10 (line k c r ++ [10]) = [] := after_app (line_no10 hok)
  have hr : rd k (before 10 (line k c r ++ [10])) = some (c, r) := by rw [hb]; exact rd_iff.2 ⟨hok, rfl⟩
  rw [opens_step h10 hr, hb, ha, opens_no10 (by simp)]
  rfl
theorem opens_take : ∀ (n : Nat) (k : Int) (s : List UInt8), opens n k (s.take (opens n k s).2) = opens n k s
  | 0, k, s => by simp [opens]
  | n + 1, k, s => by
    have e0 : opens (n + 1) k s = ([], 0) → opens (n + 1) k (s.take (opens (n + 1) k s).2) = opens (n + 1) k s := by
      intro h
      rw [h, List.take_zero, opens_no10 (by simp)]
    by_cases h10 : (10 : UInt8) ∈ s
    · cases hr : rd k (before 10 s) with
      | none => exact e0 (opens_bad hr)
      | some e =>
        have hst := opens_step (n := n) h10 hr
        have ih := opens_take n (k + 1) (after 10 s)
        have hsp := split_at h10
        have ht : s.take ((before 10 s).length + 1 + (opens n (k + 1) (after 10 s)).2) = before 10 s ++ 10 :: (after 10 s).take (opens n (k + 1) (after 10 s)).2 := by
          generalize (opens n (k + 1) (after 10 s)).2 = m
          generalize hA : after 10 s = a at *
          generalize hB : before 10 s = b at *
          subst hsp
          rw [show b.length + 1 + m = b.length + (1 + m) by omega, List.take_append, List.take_of_length_le (by omega), show b.length + (1 + m) - b.length = m + 1 by omega, List.take_succ_cons]
        have hn := before_not 10 s
        rw [hst]
        simp only
        rw [ht, opens_step (by simp) (by rw [before_app hn]; exact hr), before_app hn, after_app hn, ih]
    · exact e0 (opens_no10 h10)
/-- a text cut off, its last byte perhaps another than a newline. -/
def Cut (s q : List UInt8) : Prop := ∃ (j : Nat) (t : List UInt8), q = s.take j ++ t ∧ (10 : UInt8) ∉ t
/-- a log recovered is a log. -/
theorem lv_recov (s : List UInt8) : lv (s.take (opens 60 0 s).2) [] ((opens 60 0 s).1.length : Nat) = true := by
  have hl := (opens_le 60 0 s).1
  have ht := opens_take 60 0 s
  simp only [lv, List.append_nil, ht, Bool.and_eq_true, decide_eq_true_eq]
  refine ⟨⟨?_, ?_⟩, trivial⟩ <;> (rw [List.length_take]; omega)
theorem itoa_zero {k : Int} (h0 : 0 ≤ k) (h1 : k ≤ 59) (h : Lib.itoa k = Lib.itoa 0) : k = 0 := by
  obtain ⟨m, rfl⟩ : ∃ m : Nat, k = m := ⟨k.toNat, by omega⟩
  have e : Lib.decDigits m = Lib.decDigits 0 := by
    have h' := h
    unfold Lib.itoa at h'
    rw [if_neg (by omega), if_neg (by omega)] at h'
    simpa using h'
  have z0 : Lib.decDigits 0 = [48] := by rw [Lib.decDigits]; rfl
  rw [z0, Lib.decDigits] at e
  by_cases hm : m < 10
  · rw [dif_pos hm] at e
    simp only [List.cons.injEq, and_true] at e
    have e2 := congrArg UInt8.toNat e
    rw [UInt8.toNat_ofNat'] at e2
    have e3 : (48 : UInt8).toNat = 48 := rfl
    omega
  · rw [dif_neg hm] at e
    have e2 := congrArg List.length e
    have := List.length_pos_iff.2 (decDigits_ne (m / 10))
    simp only [List.length_append, List.length_cons, List.length_nil] at e2
    omega
/-- a line is read at its own place alone. -/
theorem line_first {k : Int} {c r : List UInt8} (h0 : 0 ≤ k) (h1 : k ≤ 59) (hok : recOK c r = true) : opens 60 0 (line k c r ++ [10]) = if k = 0 then ([(c, r)], (line k c r).length + 1) else ([], 0) := by
  split
  · rename_i h; subst h; exact opens_line (n := 59) hok
  · rename_i h
    have hb : before 10 (line k c r ++ [10]) = line k c r := before_app (line_no10 hok)
    refine opens_bad ?_
    rw [hb]
    cases hr : rd 0 (line k c r) with
    | none => rfl
    | some e =>
      obtain ⟨c', r'⟩ := e
      obtain ⟨hok', hl⟩ := rd_iff.1 hr
      have e1 := congrArg (before 35) hl
      rw [line_before hok', line_before hok] at e1
      have e2 := congrArg (before 32) e1
      unfold body at e2
      rw [before_app (itoa_not 0 32 (by decide) (by decide)), before_app (itoa_not k 32 (by decide) (by decide))] at e2
      exact absurd (itoa_zero h0 h1 e2.symm) h
end Go.Pe.Tryd

set_option maxRecDepth 100000
set_option maxHeartbeats 4000000
set_option linter.all false
namespace Go.Pe.Tryd
open Go.Proofs.Tryd
theorem bytes_noOwn : ∀ bs : List UInt8, (bytesD bs).noOwn = true
  | [] => rfl
  | b :: bs => by simp [bytesD, D.noOwn, bytes_noOwn bs]
theorem bytes_nth : ∀ (bs : List UInt8) (i : Nat), (bytesD bs).nth i = (bs[i]?).map fun b => D.int .u8 (b.toNat : Int)
  | [], i => by cases i <;> rfl
  | b :: bs, 0 => rfl
  | b :: bs, i + 1 => by simp [bytesD, D.nth, bytes_nth bs i]
theorem and255 (x : Int) : 0 ≤ bits .and .u64 x 255 ∧ bits .and .u64 x 255 ≤ 255 := by
  unfold bits
  have h : (BitVec.ofInt (IntKind.bits .u64) x &&& BitVec.ofInt (IntKind.bits .u64) 255).toNat ≤ 255 := by
    rw [BitVec.toNat_and]; exact Nat.le_trans Nat.and_le_right (by decide)
  simp only []
  generalize (BitVec.ofInt (IntKind.bits .u64) x &&& BitVec.ofInt (IntKind.bits .u64) 255).toNat = m at h
  have : IntKind.wrap .u64 (m : Int) = m := by
    simp [IntKind.wrap, IntKind.bits, IntKind.signed]; omega
  rw [this]; omega
def curD (code : List UInt8) (k : Nat) (seed : Int) : D := .st (.cons (.sl false 1 (bytesD code)) (.cons (.int .i64 k) (.cons (.int .u64 seed) .nil)))
theorem cur_next (code : List UInt8) (k : Nat) (seed : Int) (hc : code.length ≤ 1048576) (hk : k ≤ 1000000000000) : FnM prog 70 true (curD code k seed) []
    (fun x' rs => ∃ (n : Int) (seed' : Int), x' = curD code (k + 1) seed' ∧ rs = [.int .i64 n] ∧ 0 ≤ n ∧ n < 256) := by
  have h0 : (0 : Int) ≤ (k : Int) := by omega
  refine FnM_of' (fn := f70) (by exact func70) c70 r70 (n := 62) (by rfl) (rv := [.tmp 2]) (by rfl) (by decide) (by simp) ?_
  unfold m70
  simp only [curD]
  by_cases hlt : k < code.length
  · obtain ⟨b, hb⟩ := get_lt hlt
    have hbl : (b.toNat : Int) < 256 := by have := b.toNat_lt; omega
    have hd : decide ((k : Int) < (code.length : Int)) = true := decide_eq_true (by omega)
    have hd2 : decide ((k : Int) + 1 ≤ (code.length : Int)) = true := decide_eq_true (by omega)
    repeat' (first
        | (simp only [bytesD_len, bytes_noOwn, bytes_nth, hd, hd2, h0, hb, Int.toNat_natCast, onC_true, ↓wA, ↓wC, wB, frzBE, frzBS, Nat.reduceEqDiff, Nat.reduceAdd, Nat.reduceSub, reduceIte, reduceCtorEq, Nat.reduceBEq, Nat.reduceLT, decide_true])
        | (refine onI_bare (by simp only [InR]; omega) ?_)
        | (refine onI_wrap ?_)
        | (refine execG_split (fun h => ?_) (fun h => ?_) <;> simp only [h])
        | (refine execC_split (fun h => ?_) (fun h => ?_) <;> (try simp only [h]))
        | (refine onPick_split (fun h => ?_) (fun h => ?_) <;> (try simp only [h])))
    exact ⟨_, _, rfl, rfl, by omega, hbl⟩
  · have hd : decide ((k : Int) < (code.length : Int)) = false := decide_eq_false (by omega)
    have hd2 : decide ((k : Int) + 1 ≤ (code.length : Int)) = false := decide_eq_false (by omega)
    repeat' (first
        | (simp only [bytesD_len, bytes_noOwn, hd, hd2, h0, onC_true, ↓wA, ↓wC, wB, frzBE, frzBS, Nat.reduceEqDiff, Nat.reduceAdd, Nat.reduceSub, reduceIte, reduceCtorEq, Nat.reduceBEq, Nat.reduceLT, decide_true])
        | (with_reducible refine onI_bare ?_ ?_; focus (simp only [InR]; omega))
        | (with_reducible refine onC_i ?_ ?_; focus omega)
        | (with_reducible refine onI_wrap (k := .u64) ?_)
        | (refine execG_split (fun h => ?_) (fun h => ?_) <;> simp only [h])
        | (refine execC_split (fun h => ?_) (fun h => ?_) <;> (try simp only [h]))
        | (refine onPick_split (fun h => ?_) (fun h => ?_) <;> (try simp only [h])))
    generalize hX : (Int.fdiv _ _ : Int) = X
    have h255 := and255 X
    refine onI_bare (by simp only [InR]; omega) ?_
    simp only [↓wA, ↓wC, wB, frzBE, frzBS, Nat.reduceEqDiff, Nat.reduceAdd, Nat.reduceSub, reduceIte, reduceCtorEq, Nat.reduceBEq, Nat.reduceLT, decide_true]
    exact ⟨_, _, rfl, rfl, h255.1, by omega⟩
end Go.Pe.Tryd

set_option maxRecDepth 100000
set_option maxHeartbeats 4000000
set_option linter.all false
namespace Go.Pe.Tryd
open Go.Proofs.Tryd
theorem pick_fn (code : List UInt8) (k : Nat) (seed n : Int) (hc : code.length ≤ 1048576) (hk : k ≤ 999999999990) : FnM prog 54 true (curD code k seed) [.int .i64 n]
    (fun x' rs => ∃ (m : Int) (k' : Nat) (seed' : Int), x' = curD code k' seed' ∧ rs = [.int .i64 m] ∧ k ≤ k' ∧ k' ≤ k + 2 ∧ 0 ≤ m ∧ (m < n ∨ m = 0)) := by
  cases h1 : decide (n ≤ 1) with
  | true =>
    refine FnM_of' (fn := f54) (by exact func54) c54 r54 (n := 20) (by rfl) (rv := [.tmp 4]) (by rfl) (by decide) (by simp) ?_
    unfold m54
    repeat' (first
        | (simp only [h1, ↓wA, ↓wC, wB, frzBE, frzBS, Nat.reduceEqDiff, Nat.reduceAdd, Nat.reduceSub, reduceIte, reduceCtorEq, Nat.reduceBEq, Nat.reduceLT, decide_true])
        | (refine execG_split (fun h => ?_) (fun h => ?_) <;> simp only [h])
        | (refine execC_split (fun h => ?_) (fun h => ?_) <;> (try simp only [h]))
        | (refine onPick_split (fun h => ?_) (fun h => ?_) <;> (try simp only [h])))
    exact ⟨0, k, seed, rfl, rfl, by omega, by omega, by omega, .inr rfl⟩
  | false =>
    have h1' := of_decide_eq_false h1
    have hn0 : n ≠ 0 := by omega
    cases h2 : decide (200 < n) with
    | false =>
      refine FnM_of' (fn := f54) (by exact func54) c54 r54 (n := 20) (by rfl) (rv := [.tmp 4]) (by rfl) (by decide) (by simp) ?_
      unfold m54
      repeat' (first
          | (simp only [h1, h2, ↓wA, ↓wC, wB, frzBE, frzBS, Nat.reduceEqDiff, Nat.reduceAdd, Nat.reduceSub, reduceIte, reduceCtorEq, Nat.reduceBEq, Nat.reduceLT, decide_true])
          | (refine execG_split (fun h => ?_) (fun h => ?_) <;> simp only [h])
          | (refine execC_split (fun h => ?_) (fun h => ?_) <;> (try simp only [h]))
          | (refine onPick_split (fun h => ?_) (fun h => ?_) <;> (try simp only [h])))
      refine callM_rel (cur_next code k seed hc (by omega)) rfl rfl rfl ?_
      rintro _ _ ⟨a, s1, rfl, rfl, ha0, ha1⟩
      have t0 : 0 ≤ a.tmod n := Int.tmod_nonneg _ ha0
      have t1 : a.tmod n < n := Int.tmod_lt_of_pos _ (by omega)
      repeat' (first
          | (simp only [h1, h2, ↓wA, ↓wC, wB, frzBE, frzBS, Nat.reduceEqDiff, Nat.reduceAdd, Nat.reduceSub, reduceIte, reduceCtorEq, Nat.reduceBEq, Nat.reduceLT, decide_true])
          | (with_reducible refine onC_i hn0 ?_)
          | (with_reducible refine onI_bare ?_ ?_; focus (simp only [InR]; omega))
          | (refine execG_split (fun h => ?_) (fun h => ?_) <;> simp only [h])
          | (refine execC_split (fun h => ?_) (fun h => ?_) <;> (try simp only [h]))
          | (refine onPick_split (fun h => ?_) (fun h => ?_) <;> (try simp only [h])))
      exact ⟨_, k + 1, s1, rfl, rfl, by omega, by omega, t0, .inl t1⟩
    | true =>
      refine FnM_of' (fn := f54) (by exact func54) c54 r54 (n := 20) (by rfl) (rv := [.tmp 4]) (by rfl) (by decide) (by simp) ?_
      unfold m54
      repeat' (first
          | (simp only [h1, h2, ↓wA, ↓wC, wB, frzBE, frzBS, Nat.reduceEqDiff, Nat.reduceAdd, Nat.reduceSub, reduceIte, reduceCtorEq, Nat.reduceBEq, Nat.reduceLT, decide_true])
          | (refine execG_split (fun h => ?_) (fun h => ?_) <;> simp only [h])
          | (refine execC_split (fun h => ?_) (fun h => ?_) <;> (try simp only [h]))
          | (refine onPick_split (fun h => ?_) (fun h => ?_) <;> (try simp only [h])))
      refine callM_rel (cur_next code k seed hc (by omega)) rfl rfl rfl ?_
      rintro _ _ ⟨a, s1, rfl, rfl, ha0, ha1⟩
      repeat' (first
          | (simp only [h1, h2, ↓wA, ↓wC, wB, frzBE, frzBS, Nat.reduceEqDiff, Nat.reduceAdd, Nat.reduceSub, reduceIte, reduceCtorEq, Nat.reduceBEq, Nat.reduceLT, decide_true])
          | (with_reducible refine onI_bare ?_ ?_; focus (simp only [InR]; omega))
          | (refine execG_split (fun h => ?_) (fun h => ?_) <;> simp only [h])
          | (refine execC_split (fun h => ?_) (fun h => ?_) <;> (try simp only [h]))
          | (refine onPick_split (fun h => ?_) (fun h => ?_) <;> (try simp only [h])))
      refine callM_rel (cur_next code (k + 1) s1 hc (by omega)) rfl rfl rfl ?_
      rintro _ _ ⟨b, s2, rfl, rfl, hb0, hb1⟩
      have t0 : 0 ≤ (a * 256 + b).tmod n := Int.tmod_nonneg _ (by omega)
      have t1 : (a * 256 + b).tmod n < n := Int.tmod_lt_of_pos _ (by omega)
      repeat' (first
          | (simp only [h1, h2, ↓wA, ↓wC, wB, frzBE, frzBS, Nat.reduceEqDiff, Nat.reduceAdd, Nat.reduceSub, reduceIte, reduceCtorEq, Nat.reduceBEq, Nat.reduceLT, decide_true])
          | (with_reducible refine onC_i hn0 ?_)
          | (with_reducible refine onI_bare ?_ ?_; focus (simp only [InR]; omega))
          | (refine execG_split (fun h => ?_) (fun h => ?_) <;> simp only [h])
          | (refine execC_split (fun h => ?_) (fun h => ?_) <;> (try simp only [h]))
          | (refine onPick_split (fun h => ?_) (fun h => ?_) <;> (try simp only [h])))
      exact ⟨_, k + 1 + 1, s2, rfl, rfl, by omega, by omega, t0, .inl t1⟩
end Go.Pe.Tryd

set_option maxRecDepth 100000
set_option maxHeartbeats 4000000
set_option linter.all false
namespace Go.Pe.Tryd
open Go.Proofs.Tryd
theorem one_fn (code : List UInt8) (k : Nat) (seed n : Int) (hc : code.length ≤ 1048576) (hk : k ≤ 999999999990) : FnM prog 56 true (curD code k seed) [.int .i64 n]
    (fun x' rs => ∃ (b : Bool) (k' : Nat) (seed' : Int), x' = curD code k' seed' ∧ rs = [.bool b] ∧ k ≤ k' ∧ k' ≤ k + 2) := by
  refine FnM_of' (fn := f56) (by exact func56) c56 r56 (n := 9) (by rfl) (rv := [.tmp 4]) (by rfl) (by decide) (by simp) ?_
  unfold m56
  try simp only [↓wA, ↓wC, wB, frzBE, frzBS, Nat.reduceEqDiff, Nat.reduceAdd, Nat.reduceSub, reduceIte, reduceCtorEq, Nat.reduceBEq, Nat.reduceLT, decide_true]
  refine callM_rel (pick_fn code k seed n hc hk) rfl rfl rfl ?_
  rintro _ _ ⟨m, k', s', rfl, rfl, h1, h2, h3, h4⟩
  simp only [↓wA, ↓wC, wB, frzBE, frzBS, Nat.reduceEqDiff, Nat.reduceAdd, Nat.reduceSub, reduceIte, reduceCtorEq, Nat.reduceBEq, Nat.reduceLT, decide_true]
  exact ⟨_, k', s', rfl, rfl, h1, h2⟩
theorem among_fn (code : List UInt8) (k : Nat) (seed : Int) (v : List Int) (hc : code.length ≤ 1048576) (hk : k ≤ 999999999990) (hv : 0 < v.length) (hl : v.length ≤ 1048576) : FnM prog 49 true (curD code k seed) [.sl false 1 (dl iD v)]
    (fun x' rs => ∃ (m : Int) (k' : Nat) (seed' : Int), x' = curD code k' seed' ∧ rs = [.int .i64 m] ∧ k ≤ k' ∧ k' ≤ k + 2 ∧ m ∈ v) := by
  refine FnM_of' (fn := f49) (by exact func49) c49 r49 (n := 12) (by rfl) (rv := [.tmp 4]) (by rfl) (by decide) (by simp) ?_
  unfold m49
  try simp only [dl_len, ↓wA, ↓wC, wB, frzBE, frzBS, Nat.reduceEqDiff, Nat.reduceAdd, Nat.reduceSub, reduceIte, reduceCtorEq, Nat.reduceBEq, Nat.reduceLT, decide_true]
  refine callM_rel (pick_fn code k seed v.length hc hk) rfl rfl rfl ?_
  rintro _ _ ⟨m, k', s', rfl, rfl, h1, h2, h3, h4⟩
  obtain ⟨y, hy⟩ := get_lt (show m.toNat < v.length by omega)
  repeat' (first
      | (simp only [dl_len, dl_nth, h3, hy, Option.map_some, onC_true, rd_iD, ↓wA, ↓wC, wB, frzBE, frzBS, Nat.reduceEqDiff, Nat.reduceAdd, Nat.reduceSub, reduceIte, reduceCtorEq, Nat.reduceBEq, Nat.reduceLT, decide_true])
      | (refine execG_split (fun h => ?_) (fun h => ?_) <;> simp only [h])
      | (refine execC_split (fun h => ?_) (fun h => ?_) <;> (try simp only [h]))
      | (refine onPick_split (fun h => ?_) (fun h => ?_) <;> (try simp only [h])))
  exact ⟨y, k', s', rfl, rfl, h1, h2, List.mem_of_getElem? hy⟩
end Go.Pe.Tryd

set_option maxRecDepth 100000
set_option maxHeartbeats 4000000
set_option linter.all false
namespace Go.Pe.Tryd
open Go.Proofs.Tryd
/-- a list of short texts. -/
def strsOK (B : Nat) : D → Bool
  | .nil => true
  | .cons (.str s) xs => decide (s.length ≤ B) && strsOK B xs
  | _ => false
theorem strs_list (B : Nat) : ∀ x : D, strsOK B x = true → ∃ L : List (List UInt8), x = dl D.str L ∧ ∀ s ∈ L, s.length ≤ B := by
  intro x
  induction x with
  | nil => intro _; exact ⟨[], rfl, by simp⟩
  | cons x xs _ ih =>
    intro h
    cases x with
    | str s =>
      simp only [strsOK, Bool.and_eq_true, decide_eq_true_eq] at h
      obtain ⟨L, hL, hb⟩ := ih h.2
      refine ⟨s :: L, by rw [hL]; rfl, ?_⟩
      intro t ht
      rcases List.mem_cons.1 ht with e | e
      · rw [e]; exact h.1
      · exact hb t e
    | _ => simp [strsOK] at h
  | _ => intro h; simp [strsOK] at h
theorem of_fn (code : List UInt8) (k : Nat) (seed : Int) (x : D) (B : Nat) (hc : code.length ≤ 1048576) (hk : k ≤ 999999999990) (hx : strsOK B x = true) (h0 : 0 < x.len ∧ x.len ≤ 100000) : FnM prog 67 true (curD code k seed) [.sl false 1 x]
    (fun x' rs => ∃ (s : List UInt8) (k' : Nat) (seed' : Int), x' = curD code k' seed' ∧ rs = [.str s] ∧ k ≤ k' ∧ k' ≤ k + 2 ∧ s.length ≤ B) := by
  obtain ⟨L, rfl, hL⟩ := strs_list B x hx
  rw [dl_len] at h0
  refine FnM_of' (fn := f67) (by exact func67) c67 r67 (n := 12) (by rfl) (rv := [.tmp 4]) (by rfl) (by decide) (by simp) ?_
  unfold m67
  try simp only [dl_len, ↓wA, ↓wC, wB, frzBE, frzBS, Nat.reduceEqDiff, Nat.reduceAdd, Nat.reduceSub, reduceIte, reduceCtorEq, Nat.reduceBEq, Nat.reduceLT, decide_true, sz42]
  refine callM_rel (pick_fn code k seed L.length hc hk) rfl rfl rfl ?_
  rintro _ _ ⟨m, k', s', rfl, rfl, h1, h2, h3, h4⟩
  obtain ⟨y, hy⟩ := get_lt (show m.toNat < L.length by omega)
  repeat' (first
      | (simp only [dl_len, dl_nth, h3, hy, Option.map_some, onC_true, ↓wA, ↓wC, wB, frzBE, frzBS, Nat.reduceEqDiff, Nat.reduceAdd, Nat.reduceSub, reduceIte, reduceCtorEq, Nat.reduceBEq, Nat.reduceLT, decide_true, sz42])
      | (refine execG_split (fun h => ?_) (fun h => ?_) <;> simp only [h])
      | (refine execC_split (fun h => ?_) (fun h => ?_) <;> (try simp only [h]))
      | (refine onPick_split (fun h => ?_) (fun h => ?_) <;> (try simp only [h])))
  exact ⟨y, k', s', rfl, rfl, h1, h2, hL y (List.mem_of_getElem? hy)⟩
theorem spoilt_fn (code : List UInt8) (k : Nat) (seed : Int) (t w : List UInt8) (hc : code.length ≤ 1048576) (hk : k ≤ 999999999900) (ht : t.length ≤ 100000000) (hw : 0 < w.length) (hw2 : w.length ≤ 1000) : FnM prog 55 true (curD code k seed) [.str t, .str w]
    (fun x' rs => ∃ (s : List UInt8) (k' : Nat) (seed' : Int), x' = curD code k' seed' ∧ rs = [.str s] ∧ k ≤ k' ∧ k' ≤ k + 6 ∧ s.length ≤ t.length + 1) := by
  by_cases h0 : t = []
  · have hd : decide (t = []) = true := decide_eq_true h0
    refine FnM_of' (fn := f55) (by exact func55) c55 r55 (n := 57) (by rfl) (rv := [.tmp 6]) (by rfl) (by decide) (by simp) ?_
    unfold m55
    repeat' (first
        | (simp only [hd, onC_true, ↓wA, ↓wC, wB, frzBE, frzBS, Nat.reduceEqDiff, Nat.reduceAdd, Nat.reduceSub, reduceIte, reduceCtorEq, Nat.reduceBEq, Nat.reduceLT, decide_true, sz42])
        | (with_reducible refine onC_i ?_ ?_; focus omega)
        | (refine execG_split (fun h => ?_) (fun h => ?_) <;> simp only [h])
        | (refine execC_split (fun h => ?_) (fun h => ?_) <;> (try simp only [h]))
        | (refine onPick_split (fun h => ?_) (fun h => ?_) <;> (try simp only [h])))
    exact ⟨_, k, seed, rfl, rfl, by omega, by omega, by rw [List.length_take]; omega⟩
  · have hd : decide (t = []) = false := decide_eq_false h0
    have hl0 : 0 < t.length := List.length_pos_iff.2 h0
    refine FnM_of' (fn := f55) (by exact func55) c55 r55 (n := 57) (by rfl) (rv := [.tmp 6]) (by rfl) (by decide) (by simp) ?_
    unfold m55
    repeat' (first
        | (simp only [hd, onC_true, ↓wA, ↓wC, wB, frzBE, frzBS, Nat.reduceEqDiff, Nat.reduceAdd, Nat.reduceSub, reduceIte, reduceCtorEq, Nat.reduceBEq, Nat.reduceLT, decide_true, sz42])
        | (refine execG_split (fun h => ?_) (fun h => ?_) <;> simp only [h])
        | (refine execC_split (fun h => ?_) (fun h => ?_) <;> (try simp only [h]))
        | (refine onPick_split (fun h => ?_) (fun h => ?_) <;> (try simp only [h])))
    refine callM_rel (pick_fn code k seed t.length hc (by omega)) rfl rfl rfl ?_
    rintro _ _ ⟨i, k1, s1, rfl, rfl, hk1, hk1', hi, hi'⟩
    repeat' (first
        | (simp only [onC_true, ↓wA, ↓wC, wB, frzBE, frzBS, Nat.reduceEqDiff, Nat.reduceAdd, Nat.reduceSub, reduceIte, reduceCtorEq, Nat.reduceBEq, Nat.reduceLT, decide_true, sz42])
        | (refine execG_split (fun h => ?_) (fun h => ?_) <;> simp only [h])
        | (refine execC_split (fun h => ?_) (fun h => ?_) <;> (try simp only [h]))
        | (refine onPick_split (fun h => ?_) (fun h => ?_) <;> (try simp only [h])))
    refine callM_rel (pick_fn code k1 s1 w.length hc (by omega)) rfl rfl rfl ?_
    rintro _ _ ⟨j, k2, s2, rfl, rfl, hk2, hk2', hj, hj'⟩
    have hdl : 1 ≤ (w.drop j.toNat).length := by rw [List.length_drop]; omega
    have h1l : ((w.drop j.toNat).take 1).length ≤ 1 := by rw [List.length_take]; omega
    repeat' (first
        | (simp only [onC_true, ↓wA, ↓wC, wB, frzBE, frzBS, Nat.reduceEqDiff, Nat.reduceAdd, Nat.reduceSub, reduceIte, reduceCtorEq, Nat.reduceBEq, Nat.reduceLT, decide_true, sz42])
        | (with_reducible refine onC_i ?_ ?_; focus omega)
        | (refine execG_split (fun h => ?_) (fun h => ?_) <;> simp only [h])
        | (refine execC_split (fun h => ?_) (fun h => ?_) <;> (try simp only [h]))
        | (refine onPick_split (fun h => ?_) (fun h => ?_) <;> (try simp only [h])))
    generalize hS : (w.drop j.toNat).take (1 : Int).toNat = q
    have hq : q.length ≤ 1 := by rw [← hS, List.length_take]; show min 1 _ ≤ 1; omega
    refine callM_rel (pick_fn code k2 s2 3 hc (by omega)) rfl rfl rfl ?_
    rintro _ _ ⟨m, k3, s3, rfl, rfl, hk3, hk3', hm, hm'⟩
    have l1 : (t.take i.toNat).length = i.toNat := by rw [List.length_take]; omega
    have l2 : (t.drop i.toNat).length = t.length - i.toNat := by rw [List.length_drop]
    have l3 : (t.drop (i + 1).toNat).length = t.length - (i.toNat + 1) := by rw [List.length_drop]; omega
    repeat' (first
        | (simp only [onC_true, ↓wA, ↓wC, wB, frzBE, frzBS, Nat.reduceEqDiff, Nat.reduceAdd, Nat.reduceSub, reduceIte, reduceCtorEq, Nat.reduceBEq, Nat.reduceLT, decide_true, sz42])
        | (with_reducible refine onC_i ?_ ?_; focus omega)
        | (with_reducible refine onC_i ?_ ?_; focus (simp only [List.length_append]; omega))
        | (with_reducible refine onI_bare ?_ ?_; focus (simp only [InR]; omega))
        | (refine execG_split (fun h => ?_) (fun h => ?_) <;> simp only [h])
        | (refine execC_split (fun h => ?_) (fun h => ?_) <;> (try simp only [h]))
        | (refine onPick_split (fun h => ?_) (fun h => ?_) <;> (try simp only [h])))
    all_goals exact ⟨_, k3, s3, rfl, rfl, by omega, by omega, by simp only [List.length_append]; omega⟩
theorem logRecord_fn (code : List UInt8) (k : Nat) (seed : Int) (hc : code.length ≤ 1048576) (hk : k ≤ 999999999900) : FnM prog 50 true (curD code k seed) []
    (fun x' rs => ∃ (c r : List UInt8) (k' : Nat) (seed' : Int), x' = curD code k' seed' ∧ rs = [recD c r] ∧ k ≤ k' ∧ k' ≤ k + 20 ∧ c.length ≤ 20 ∧ r.length ≤ 20) := by
  refine FnM_of' (fn := f50) (by exact func50) c50 r50 (n := 28) (by rfl) (rv := [.cell 2 42]) (by rfl) (by decide) (by simp) ?_
  unfold m50
  repeat' (first
      | (simp only [onC_true, ↓wA, ↓wC, wB, frzBE, frzBS, Nat.reduceEqDiff, Nat.reduceAdd, Nat.reduceSub, reduceIte, reduceCtorEq, Nat.reduceBEq, Nat.reduceLT, decide_true, sz42])
      | (refine execG_split (fun h => ?_) (fun h => ?_) <;> simp only [h])
      | (refine execC_split (fun h => ?_) (fun h => ?_) <;> (try simp only [h]))
      | (refine onPick_split (fun h => ?_) (fun h => ?_) <;> (try simp only [h])))
  refine call_frz 2 ?_
  simp only [frz1, frzE, frzS, D.unown, ↓wA, ↓wC, wB, frzBE, frzBS, Nat.reduceEqDiff, Nat.reduceAdd, Nat.reduceSub, reduceIte, reduceCtorEq, Nat.reduceBEq, Nat.reduceLT, decide_true, sz42]
  refine callM_rel (of_fn code k seed _ 20 hc (by omega) (by rfl) (by decide)) rfl rfl rfl ?_
  rintro _ _ ⟨c, k1, s1, rfl, rfl, hk1, hk1', hmc⟩
  repeat' (first
      | (simp only [onC_true, ↓wA, ↓wC, wB, frzBE, frzBS, Nat.reduceEqDiff, Nat.reduceAdd, Nat.reduceSub, reduceIte, reduceCtorEq, Nat.reduceBEq, Nat.reduceLT, decide_true, sz42])
      | (refine execG_split (fun h => ?_) (fun h => ?_) <;> simp only [h])
      | (refine execC_split (fun h => ?_) (fun h => ?_) <;> (try simp only [h]))
      | (refine onPick_split (fun h => ?_) (fun h => ?_) <;> (try simp only [h])))
  refine call_frz 3 ?_
  simp only [frz1, frzE, frzS, D.unown, ↓wA, ↓wC, wB, frzBE, frzBS, Nat.reduceEqDiff, Nat.reduceAdd, Nat.reduceSub, reduceIte, reduceCtorEq, Nat.reduceBEq, Nat.reduceLT, decide_true, sz42]
  refine callM_rel (of_fn code k1 s1 _ 20 hc (by omega) (by rfl) (by decide)) rfl rfl rfl ?_
  rintro _ _ ⟨r, k2, s2, rfl, rfl, hk2, hk2', hmr⟩
  repeat' (first
      | (simp only [onC_true, ↓wA, ↓wC, wB, frzBE, frzBS, Nat.reduceEqDiff, Nat.reduceAdd, Nat.reduceSub, reduceIte, reduceCtorEq, Nat.reduceBEq, Nat.reduceLT, decide_true, sz42])
      | (refine execG_split (fun h => ?_) (fun h => ?_) <;> simp only [h])
      | (refine execC_split (fun h => ?_) (fun h => ?_) <;> (try simp only [h]))
      | (refine onPick_split (fun h => ?_) (fun h => ?_) <;> (try simp only [h])))
  refine callM_rel (pick_fn code k2 s2 24 hc (by omega)) rfl rfl rfl ?_
  rintro _ _ ⟨m, k3, s3, rfl, rfl, hk3, hk3', hm, hm'⟩
  repeat' (first
      | (simp only [onC_true, ↓wA, ↓wC, wB, frzBE, frzBS, Nat.reduceEqDiff, Nat.reduceAdd, Nat.reduceSub, reduceIte, reduceCtorEq, Nat.reduceBEq, Nat.reduceLT, decide_true, sz42])
      | (refine b2s_own [0, 0, 0] rfl ?_)
      | (with_reducible refine onC_i ?_ ?_; focus omega)
      | (refine execG_split (fun h => ?_) (fun h => ?_) <;> simp only [h])
      | (refine execC_split (fun h => ?_) (fun h => ?_) <;> (try simp only [h]))
      | (refine onPick_split (fun h => ?_) (fun h => ?_) <;> (try simp only [h])))
  · skip
    refine call_frz 6 ?_
    simp only [frz1, frzE, frzS, D.unown, ↓wA, ↓wC, wB, frzBE, frzBS, Nat.reduceEqDiff, Nat.reduceAdd, Nat.reduceSub, reduceIte, reduceCtorEq, Nat.reduceBEq, Nat.reduceLT, decide_true, sz42]
    refine callM_rel (of_fn code k3 s3 _ 20 hc (by omega) (by rfl) (by decide)) rfl rfl rfl ?_
    rintro _ _ ⟨c2, k4, s4, rfl, rfl, hk4, hk4', hmc2⟩
    repeat' (first
        | (simp only [onC_true, ↓wA, ↓wC, wB, frzBE, frzBS, Nat.reduceEqDiff, Nat.reduceAdd, Nat.reduceSub, reduceIte, reduceCtorEq, Nat.reduceBEq, Nat.reduceLT, decide_true, sz42])
        | (refine execG_split (fun h => ?_) (fun h => ?_) <;> simp only [h])
        | (refine execC_split (fun h => ?_) (fun h => ?_) <;> (try simp only [h]))
        | (refine onPick_split (fun h => ?_) (fun h => ?_) <;> (try simp only [h])))
    exact ⟨_, _, k4, s4, rfl, rfl, by omega, by omega, hmc2, hmr⟩
  · skip
    refine call_frz 5 ?_
    simp only [frz1, frzE, frzS, D.unown, ↓wA, ↓wC, wB, frzBE, frzBS, Nat.reduceEqDiff, Nat.reduceAdd, Nat.reduceSub, reduceIte, reduceCtorEq, Nat.reduceBEq, Nat.reduceLT, decide_true, sz42]
    refine callM_rel (of_fn code k3 s3 _ 20 hc (by omega) (by rfl) (by decide)) rfl rfl rfl ?_
    rintro _ _ ⟨c2, k4, s4, rfl, rfl, hk4, hk4', hmc2⟩
    repeat' (first
        | (simp only [onC_true, ↓wA, ↓wC, wB, frzBE, frzBS, Nat.reduceEqDiff, Nat.reduceAdd, Nat.reduceSub, reduceIte, reduceCtorEq, Nat.reduceBEq, Nat.reduceLT, decide_true, sz42])
        | (refine execG_split (fun h => ?_) (fun h => ?_) <;> simp only [h])
        | (refine execC_split (fun h => ?_) (fun h => ?_) <;> (try simp only [h]))
        | (refine onPick_split (fun h => ?_) (fun h => ?_) <;> (try simp only [h])))
    exact ⟨_, _, k4, s4, rfl, rfl, by omega, by omega, hmc, hmc2⟩
  · exact ⟨_, _, k3, s3, rfl, rfl, by omega, by omega, hmc, hmr⟩
end Go.Pe.Tryd
