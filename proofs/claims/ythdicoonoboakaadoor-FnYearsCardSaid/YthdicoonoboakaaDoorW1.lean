/- Records of a log: what a valid one is, walked; The lines of a log as plain lists of bytes: what a line is, how it is read, that there is one way alone; Logs read, as plain lists: cuts, parts, the records of a text; Numbers read out of texts, as plain lists of bytes; a text cut at several bytes; The walks of the small functions of the yearly rows; The law of IsYearRow, walked; Copies of rows; Sizes, equality with itself, what is gone; Numbers as decimal text: the library's, and the reference's own road to it; The line of a year, walked; The line of a year read again, as plain lists: the program's road and the reference's agree; Appeals among the laws' helpers: sizes, copies, equality; walked; Lists of appeals among the laws' helpers: sizes and copies; walked; Copies of lists of appeals, walked; Small tests of appeals, walked; Rising lists, walked; Is an appeal valid? walked; Valid appeals, walked; Valid lists of appeals, walked; Offices among the laws' helpers: sizes, copies, equality; walked; Entries of a ledger: strings.Trim, walked; what an entry is; What a valid record is, and a record among the laws' helpers, walked; The law of EncodeRecord, walked; A text cut, split, verified, walked; Numbers read out of texts; texts cut: walked; The line of a year read again, walked; the law of ParseYear -/
import Derived.Test.YthdicoonoboakaaDoorPeD
import Derived.Test.YthdicoonoboakaaDoorMc1
import Derived.Test.YthdicoonoboakaaDoorMc2
import Derived.Lib.ItoaNum
import Derived.Lib.IndexMore
import Derived.Test.YthdicoonoboakaaDoorShelf
import Derived.Lib.ItoaLen
import Derived.Lib.AsciiSet
set_option maxRecDepth 100000
set_option maxHeartbeats 4000000
set_option linter.all false
namespace Go.Pe.Tryd
open Nat (reduceEqDiff reduceAdd reduceSub reduceLT)
open Go.Proofs.Tryd
def within (n a b : Int) : Bool := decide (a ≤ n) && decide (n ≤ b)
theorem within_fn (n a b : Int) : Fn prog 27 [.int .i64 n, .int .i64 a, .int .i64 b] (fun rs => rs = [.bool (within n a b)]) := by
  refine Fn_of' (fn := f27) (by exact func27) c27 r27 (n := 15) (by rfl) (rv := [.tmp 6]) (by rfl) (by simp) ?_
  unfold m27
  try simp only [wQ]
  simp only [↓wA, ↓wC, wB, frzBE, frzBS, reduceEqDiff, reduceAdd, reduceSub, reduceIte, reduceCtorEq, Nat.reduceBEq, reduceLT]
  refine execG_split (fun h => ?_) (fun h => ?_) <;> simp only [h, ↓wA, ↓wC, wB, frzBE, frzBS, reduceEqDiff, reduceAdd, reduceSub, reduceIte, reduceCtorEq, Nat.reduceBEq, reduceLT]
  all_goals simp [within, h]
theorem l1In_fn (n a b : Int) : Fn prog 45 [.int .i64 n, .int .i64 a, .int .i64 b] (fun rs => rs = [.bool (within n a b)]) := by
  refine Fn_of' (fn := f45) (by exact func45) c45 r45 (n := 15) (by rfl) (rv := [.tmp 6]) (by rfl) (by simp) ?_
  unfold m45
  try simp only [wQ]
  simp only [↓wA, ↓wC, wB, frzBE, frzBS, reduceEqDiff, reduceAdd, reduceSub, reduceIte, reduceCtorEq, Nat.reduceBEq, reduceLT]
  refine execG_split (fun h => ?_) (fun h => ?_) <;> simp only [h, ↓wA, ↓wC, wB, frzBE, frzBS, reduceEqDiff, reduceAdd, reduceSub, reduceIte, reduceCtorEq, Nat.reduceBEq, reduceLT]
  all_goals simp [within, h]
def isP (b : UInt8) : Bool := within (b.toNat : Int) 32 126 && !decide ((b.toNat : Int) = 35)
def plain (s : List UInt8) : Bool := s.all isP
def recOK (c r : List UInt8) : Bool := within c.length 1 160 && decide ((r.length : Int) ≤ 200) && plain c && plain r && !c.contains 64
end Go.Pe.Tryd
set_option maxRecDepth 100000
set_option maxHeartbeats 4000000
set_option linter.all false
namespace Go.Pe.Tryd
open Nat (reduceEqDiff reduceAdd reduceSub reduceLT)
theorem decDigits_dig : ∀ (u : Nat), ∀ b ∈ Lib.decDigits u, 48 ≤ b.toNat ∧ b.toNat ≤ 57 := by
  intro u
  induction u using Nat.strongRecOn with
  | _ u ih =>
    intro b hb
    rw [Lib.decDigits] at hb
    have one : ∀ d : Nat, d < 10 → (UInt8.ofNat (48 + d)).toNat = 48 + d := fun d hd => by
      rw [UInt8.toNat_ofNat']; omega
    by_cases h : u < 10
    · rw [dif_pos h] at hb
      simp only [List.mem_singleton] at hb
      rw [hb, one u h]; omega
    · rw [dif_neg h] at hb
      rcases List.mem_append.1 hb with hb | hb
      · exact ih (u / 10) (by omega) b hb
      · simp only [List.mem_singleton] at hb
        rw [hb, one (u % 10) (by omega)]; omega
theorem decDigits_ne (u : Nat) : Lib.decDigits u ≠ [] := by
  rw [Lib.decDigits]
  by_cases h : u < 10
  · rw [dif_pos h]; simp
  · rw [dif_neg h]; simp
def before (x : UInt8) (s : List UInt8) : List UInt8 := s.takeWhile (· != x)
def after (x : UInt8) (s : List UInt8) : List UInt8 := (s.dropWhile (· != x)).drop 1
theorem before_app {x : UInt8} : ∀ {s t : List UInt8}, x ∉ s → before x (s ++ x :: t) = s
  | [], t, _ => by simp [before]
  | b :: s, t, h => by
    simp only [List.mem_cons, not_or] at h
    have hb : (b != x) = true := by simpa [bne_iff_ne] using fun e => h.1 e.symm
    have := before_app (t := t) h.2
    unfold before at *
    simp only [List.cons_append, List.takeWhile_cons, hb, if_true, this]
theorem split_at {x : UInt8} : ∀ {s : List UInt8}, x ∈ s → s = before x s ++ x :: after x s
  | b :: s, h => by
    by_cases e : b = x
    · subst e; simp [before, after]
    · have hb : (b != x) = true := by simpa [bne_iff_ne] using e
      have hm : x ∈ s := by
        rcases List.mem_cons.1 h with h | h
        · exact absurd h.symm e
        · exact h
      have ih := split_at hm
      unfold before after at *
      simp only [List.takeWhile_cons, List.dropWhile_cons, hb, if_true, List.cons_append]
      rw [← ih]
theorem after_len {x : UInt8} {s : List UInt8} (h : x ∈ s) : (before x s).length + 1 + (after x s).length = s.length := by
  have := congrArg List.length (split_at h)
  simp at this; omega
theorem after_drop {x : UInt8} {s : List UInt8} (h : x ∈ s) : after x s = s.drop ((before x s).length + 1) := by
  have h1 : (before x s ++ x :: after x s).drop ((before x s).length + 1) = after x s := by
    rw [← List.drop_drop, List.drop_left' rfl]; rfl
  rw [← split_at h] at h1
  exact h1.symm
def ckf (h : Int) (b : UInt8) : Int := (41 * h + (b.toNat : Int) + 1) % 999979
def ck (s : List UInt8) : Int := s.foldl ckf 7
def sealL (s : List UInt8) : List UInt8 := s ++ 35 :: Lib.itoa (ck s)
def body (k : Int) (c r : List UInt8) : List UInt8 := Lib.itoa k ++ 32 :: (c ++ 64 :: r)
def line (k : Int) (c r : List UInt8) : List UInt8 := sealL (body k c r)
def rd (k : Int) (L : List UInt8) : Option (List UInt8 × List UInt8) :=
  let rest := (before 35 L).drop ((Lib.itoa k).length + 1)
  if recOK (before 64 rest) (after 64 rest) = true ∧ line k (before 64 rest) (after 64 rest) = L then some (before 64 rest, after 64 rest) else none
def opens : Nat → Int → List UInt8 → List (List UInt8 × List UInt8) × Nat
  | 0, _, _ => ([], 0)
  | n + 1, k, s => if (10 : UInt8) ∈ s then
      match rd k (before 10 s) with
      | some e => (e :: (opens n (k + 1) (after 10 s)).1, (before 10 s).length + 1 + (opens n (k + 1) (after 10 s)).2)
      | none => ([], 0)
    else ([], 0)
end Go.Pe.Tryd
set_option maxRecDepth 100000
set_option maxHeartbeats 4000000
set_option linter.all false
namespace Go.Pe.Tryd
open Nat (reduceEqDiff reduceAdd reduceSub reduceLT)
def spl (x : UInt8) (s : List UInt8) : Nat → List (List UInt8) × Nat
  | 0 => ([], 0)
  | i + 1 => match s[i]? with
    | some c => if c = x then ((spl x s i).1 ++ [(s.take i).drop (spl x s i).2], i + 1) else spl x s i
    | none => spl x s i
def parts (x : UInt8) (s : List UInt8) : List (List UInt8) := (spl x s s.length).1 ++ [s.drop (spl x s s.length).2]
theorem spl_up {x c : UInt8} {s : List UInt8} {i : Nat} (h : s[i]? = some c) : spl x s (i + 1) = if c = x then ((spl x s i).1 ++ [(s.take i).drop (spl x s i).2], i + 1) else spl x s i := by
  simp only [spl, h]
theorem spl_bd (x : UInt8) (s : List UInt8) : ∀ i, (spl x s i).2 ≤ i ∧ (spl x s i).1.length ≤ i
  | 0 => by simp [spl]
  | i + 1 => by
    have ih := spl_bd x s i
    simp only [spl]
    split
    · split
      · simp; omega
      · omega
    · omega
theorem spl_inv (x : UInt8) (s : List UInt8) : ∀ i, i ≤ s.length → ((spl x s i).1 = [] ∧ (spl x s i).2 = 0 ∧ x ∉ s.take i) ∨ ((spl x s i).1[0]? = some (before x s) ∧ x ∈ s)
  | 0, _ => .inl ⟨rfl, rfl, by simp⟩
  | i + 1, h => by
    have hi : i < s.length := h
    have hc : s[i]? = some s[i] := List.getElem?_eq_getElem hi
    rw [spl_up hc]
    have hsp : s = s.take i ++ s[i] :: s.drop (i + 1) := by
      rw [← List.drop_eq_getElem_cons hi, List.take_append_drop]
    have htk : s.take (i + 1) = s.take i ++ [s[i]] := by rw [List.take_succ_eq_append_getElem hi]
    rcases spl_inv x s i (by omega) with ⟨h1, h2, h3⟩ | ⟨h1, h2⟩
    · split
      · rename_i e
        right
        refine ⟨?_, e ▸ List.getElem_mem hi⟩
        rw [h1, h2]
        have : before x s = s.take i := by
          have h4 := before_app (t := s.drop (i + 1)) h3
          rw [← e, ← hsp] at h4
          rw [← e]; exact h4
        simp [this]
      · rename_i e
        left
        refine ⟨h1, h2, ?_⟩
        rw [htk, List.mem_append, List.mem_singleton]
        rintro (h | h)
        · exact h3 h
        · exact e h.symm
    · right
      split
      · refine ⟨?_, h2⟩
        rw [List.getElem?_append_left (lt_of_get h1)]; exact h1
      · exact ⟨h1, h2⟩
theorem opens_step {n : Nat} {k : Int} {s : List UInt8} {e : List UInt8 × List UInt8} (h10 : (10 : UInt8) ∈ s) (h : rd k (before 10 s) = some e) : opens (n + 1) k s = (e :: (opens n (k + 1) (after 10 s)).1, (before 10 s).length + 1 + (opens n (k + 1) (after 10 s)).2) := by
  simp only [opens, h10, if_true, h]
structure Reads (s : List UInt8) (p : List (List UInt8 × List UInt8) × Nat) : Prop where
  len : p.1.length ≤ 60
  pos : p.2 ≤ s.length
  all : opens 60 0 s = (p.1 ++ (opens (60 - p.1.length) p.1.length (s.drop p.2)).1, p.2 + (opens (60 - p.1.length) p.1.length (s.drop p.2)).2)
theorem Reads.start (s : List UInt8) : Reads s ([], 0) := ⟨by simp, by simp, by simp⟩
theorem Reads.next {s p e} (h : Reads s p) (hl : p.1.length < 60) (h10 : (10 : UInt8) ∈ s.drop p.2) (hr : rd (p.1.length : Int) (before 10 (s.drop p.2)) = some e) :
    Reads s (p.1 ++ [e], p.2 + ((before 10 (s.drop p.2)).length + 1)) := by
  have hal := after_len h10
  rw [List.length_drop] at hal
  have hp := h.pos
  refine ⟨by simp; omega, by show p.2 + _ ≤ _; omega, ?_⟩
  have hn : 60 - p.1.length = (60 - (p.1.length + 1)) + 1 := by omega
  have hd : s.drop (p.2 + ((before 10 (s.drop p.2)).length + 1)) = after 10 (s.drop p.2) := by rw [after_drop h10, List.drop_drop]
  rw [h.all, hn, opens_step h10 hr]
  simp only [List.length_append, List.length_singleton, hd]
  refine Prod.ext ?_ ?_
  · simp
  · simp; omega
end Go.Pe.Tryd
set_option maxRecDepth 100000
set_option maxHeartbeats 4000000
set_option linter.all false
namespace Go.Pe.Tryd
open Nat (reduceEqDiff reduceAdd reduceSub reduceLT)
theorem index_at {c : UInt8} {sep : List UInt8} : ∀ (a b : List UInt8), c ∉ a → Lib.index (a ++ (c :: (sep ++ b))) (c :: sep) = (a.length : Int)
  | [], b, _ => by
    have hp : (c :: sep).isPrefixOf (c :: (sep ++ b)) = true := by
      rw [List.isPrefixOf_iff_prefix]; exact ⟨b, rfl⟩
    show Lib.index (c :: (sep ++ b)) (c :: sep) = 0
    rw [Lib.index, if_pos hp]
  | x :: a, b, h => by
    simp only [List.mem_cons, not_or] at h
    have ih := index_at (sep := sep) a b h.2
    have hp : (c :: sep).isPrefixOf (x :: (a ++ (c :: (sep ++ b)))) = false := by
      simp only [List.isPrefixOf, Bool.and_eq_false_iff, beq_eq_false_iff_ne]
      exact .inl h.1
    have h1 : ((Lib.index (a ++ (c :: (sep ++ b))) (c :: sep)) == -1) = false := by rw [ih, beq_eq_false_iff_ne]; omega
    show Lib.index (x :: (a ++ (c :: (sep ++ b)))) (c :: sep) = _
    rw [Lib.index, hp, h1, ih]
    simp
theorem index_not {c : UInt8} {sep : List UInt8} : ∀ (s : List UInt8), c ∉ s → Lib.index s (c :: sep) = -1
  | [], _ => rfl
  | x :: s, h => by
    simp only [List.mem_cons, not_or] at h
    have ih := index_not (sep := sep) s h.2
    have hp : (c :: sep).isPrefixOf (x :: s) = false := by
      simp only [List.isPrefixOf, Bool.and_eq_false_iff, beq_eq_false_iff_ne]
      exact .inl h.1
    have h1 : ((Lib.index s (c :: sep)) == -1) = true := by rw [ih]; rfl
    rw [Lib.index, hp, h1]; rfl
theorem cut_at {c : UInt8} {sep a b : List UInt8} (h : c ∉ a) : Lib.cut (a ++ (c :: (sep ++ b))) (c :: sep) = (a, b, true) := by
  unfold Lib.cut
  rw [index_at a b h, if_pos (by omega), Int.toNat_natCast]
  refine Prod.ext (List.take_left' rfl) (Prod.ext ?_ rfl)
  show (a ++ (c :: (sep ++ b))).drop (a.length + (c :: sep).length) = b
  rw [← List.drop_drop, List.drop_left' rfl]
  show ((c :: sep) ++ b).drop (c :: sep).length = b
  exact List.drop_left' rfl
theorem cut_not {c : UInt8} {sep s : List UInt8} (h : c ∉ s) : Lib.cut s (c :: sep) = (s, [], false) := by
  unfold Lib.cut
  rw [index_not s h, if_neg (by omega)]
theorem cut_le (s sep : List UInt8) : (Lib.cut s sep).1.length ≤ s.length ∧ (Lib.cut s sep).2.1.length ≤ s.length := by
  unfold Lib.cut
  split
  · simp only [List.length_take, List.length_drop]; omega
  · simp
def cutSuf (s suf : List UInt8) : List UInt8 := if suf.length ≤ s.length ∧ s.drop (s.length - suf.length) = suf then s.take (s.length - suf.length) else s
theorem cutSuf_app (a suf : List UInt8) : cutSuf (a ++ suf) suf = a := by
  unfold cutSuf
  have e : (a ++ suf).length - suf.length = a.length := by simp
  rw [e, if_pos ⟨by simp, List.drop_left' rfl⟩]
  exact List.take_left' rfl
theorem cutSuf_le (s suf : List UInt8) : (cutSuf s suf).length ≤ s.length := by
  unfold cutSuf
  split
  · simp only [List.length_take]; omega
  · exact Nat.le_refl _
def digB (b : UInt8) : Bool := decide (48 ≤ b.toNat) && decide (b.toNat ≤ 57)
def digs (s : List UInt8) : Int := s.foldl (fun n b => 10 * n + ((b.toNat : Int) - 48)) 0
theorem digs_snoc (s : List UInt8) (b : UInt8) : digs (s ++ [b]) = 10 * digs s + ((b.toNat : Int) - 48) := by
  unfold digs
  rw [List.foldl_append]; rfl
theorem digs_dec : ∀ u : Nat, digs (Lib.decDigits u) = (u : Int) := by
  intro u
  induction u using Nat.strongRecOn with
  | _ u ih =>
    have one : ∀ d : Nat, d < 10 → (UInt8.ofNat (48 + d)).toNat = 48 + d := fun d hd => by
      rw [UInt8.toNat_ofNat']; omega
    rw [Lib.decDigits]
    by_cases h : u < 10
    · rw [dif_pos h]
      have := digs_snoc [] (UInt8.ofNat (48 + u))
      rw [List.nil_append] at this
      rw [this, one u h]
      show 10 * (0 : Int) + _ = _
      omega
    · rw [dif_neg h, digs_snoc, ih (u / 10) (by omega), one (u % 10) (by omega)]
      omega
theorem dec_len : ∀ (k u : Nat), u < 10 ^ (k + 1) → (Lib.decDigits u).length ≤ k + 1
  | 0, u, h => by
    rw [Lib.decDigits, dif_pos (by simpa using h)]; simp
  | k + 1, u, h => by
    rw [Lib.decDigits]
    by_cases h10 : u < 10
    · rw [dif_pos h10]; simp
    · rw [dif_neg h10]
      have := dec_len k (u / 10) (by rw [Nat.pow_succ] at h; omega)
      simp only [List.length_append, List.length_singleton]; omega
theorem dec_all (u : Nat) : (Lib.decDigits u).all digB = true := by
  rw [List.all_eq_true]
  intro b hb
  have := decDigits_dig u b hb
  simp only [digB, Bool.and_eq_true, decide_eq_true_eq]
  exact this
theorem itoa_dec (u : Nat) : Lib.itoa (u : Int) = Lib.decDigits u := by
  unfold Lib.itoa
  rw [if_neg (by omega)]; simp
theorem itoa_neg (u : Nat) (h : 0 < u) : Lib.itoa (-(u : Int)) = 45 :: Lib.decDigits u := by
  unfold Lib.itoa
  rw [if_pos (by omega)]; simp
def dOf (s : List UInt8) : Int := if s ≠ [] ∧ s.length ≤ 7 ∧ s.all digB = true then digs s else -1
theorem dOf_itoa {n : Int} (h0 : 0 ≤ n) (h1 : n ≤ 9999999) : dOf (Lib.itoa n) = n := by
  obtain ⟨u, rfl⟩ := Int.eq_ofNat_of_zero_le h0
  rw [itoa_dec]
  unfold dOf
  rw [if_pos ⟨decDigits_ne u, dec_len 6 u (by omega), dec_all u⟩, digs_dec]
theorem digs_bd : ∀ (n : Nat) (s : List UInt8), s.length = n → s.all digB = true → 0 ≤ digs s ∧ digs s < 10 ^ n := by
  intro n
  induction n with
  | zero =>
    intro s hs _
    obtain rfl := List.eq_nil_of_length_eq_zero hs
    exact ⟨Int.le_refl _, by decide⟩
  | succ n ih =>
    intro s hs ha
    rcases List.eq_nil_or_concat s with rfl | ⟨u, b, rfl⟩
    · simp at hs
    · rw [List.concat_eq_append] at *
      rw [List.all_append, Bool.and_eq_true] at ha
      have hb : digB b = true := by simpa using ha.2
      simp only [digB, Bool.and_eq_true, decide_eq_true_eq] at hb
      have h := ih u (by simpa using hs) ha.1
      rw [digs_snoc, Int.pow_succ]
      omega
theorem dOf_bd (s : List UInt8) : -1 ≤ dOf s ∧ dOf s ≤ 9999999 := by
  unfold dOf
  split
  · rename_i h
    have hb := digs_bd s.length s rfl h.2.2
    have : (10 : Int) ^ s.length ≤ 10 ^ 7 := by
      have h7 : (10 : Nat) ^ s.length ≤ 10 ^ 7 := Nat.pow_le_pow_right (by decide) h.2.1
      exact_mod_cast h7
    have e : (10 : Int) ^ 7 = 10000000 := by decide
    omega
  · omega
theorem spl_shift (x : UInt8) (a t : List UInt8) (h : x ∉ a) : ∀ j, j ≤ t.length → spl x (a ++ x :: t) (a.length + 1 + j) = (a :: (spl x t j).1, a.length + 1 + (spl x t j).2)
  | 0, _ => by
    have hi := spl_inv x (a ++ x :: t) a.length (by simp)
    rcases hi with ⟨h1, h2, _⟩ | ⟨h1, _⟩
    · have hx : (a ++ x :: t)[a.length]? = some x := by simp
      rw [Nat.add_zero, spl_up hx, if_pos rfl, h1, h2]
      simp [spl]
    · exfalso
      -- nothing is done before the first byte x
      have hz : ∀ k, k ≤ a.length → (spl x (a ++ x :: t) k).1 = [] := by
        intro k
        induction k with
        | zero => intro _; rfl
        | succ k ih =>
          intro hk
          have hk' : k < a.length := hk
          have hc : (a ++ x :: t)[k]? = some a[k] := by rw [List.getElem?_append_left hk', List.getElem?_eq_getElem hk']
          rw [spl_up hc, if_neg (fun e : a[k] = x => h (e ▸ List.getElem_mem hk')), ih (by omega)]
      rw [hz a.length (Nat.le_refl _)] at h1
      simp at h1
  | j + 1, hj => by
    have ih := spl_shift x a t h j (by omega)
    have hjl : j < t.length := hj
    have hc : (a ++ x :: t)[a.length + 1 + j]? = some t[j] := by
      rw [List.getElem?_append_right (by omega), show a.length + 1 + j - a.length = j + 1 by omega]
      simp [List.getElem?_eq_getElem hjl]
    have hc' : t[j]? = some t[j] := List.getElem?_eq_getElem hjl
    rw [show a.length + 1 + (j + 1) = (a.length + 1 + j) + 1 by omega, spl_up hc, spl_up hc', ih]
    have e1 : (a ++ x :: t).take (a.length + 1 + j) = a ++ x :: t.take j := by
      rw [List.take_append, List.take_of_length_le (by omega), show a.length + 1 + j - a.length = j + 1 by omega, List.take_succ_cons]
    have e2 : ∀ p, (a ++ x :: t.take j).drop (a.length + 1 + p) = (t.take j).drop p := fun p => by
      rw [Nat.add_assoc, ← List.drop_drop, List.drop_left' rfl, Nat.add_comm 1 p, List.drop_succ_cons]
    split
    · simp only [e1, e2, List.cons_append]
      rfl
    · rfl
theorem parts_cons {x : UInt8} {a t : List UInt8} (h : x ∉ a) : parts x (a ++ x :: t) = a :: parts x t := by
  unfold parts
  have e := spl_shift x a t h t.length (Nat.le_refl _)
  have hl : (a ++ x :: t).length = a.length + 1 + t.length := by simp; omega
  rw [hl, e]
  have e2 : ∀ p, (a ++ x :: t).drop (a.length + 1 + p) = t.drop p := fun p => by
    rw [Nat.add_assoc, ← List.drop_drop, List.drop_left' rfl, Nat.add_comm 1 p, List.drop_succ_cons]
  simp only [e2, List.cons_append]
theorem parts_none {x : UInt8} {s : List UInt8} (h : x ∉ s) : parts x s = [s] := by
  unfold parts
  rcases spl_inv x s s.length (Nat.le_refl _) with ⟨h1, h2, _⟩ | ⟨_, h2⟩
  · rw [h1, h2]; rfl
  · exact absurd h2 h
def rdS (s : List UInt8) : Bool := decide (1 < s.length) && (s.head? == some 45)
def rdU (s : List UInt8) : List UInt8 := if rdS s = true then s.drop 1 else s
def rdV (s : List UInt8) : Int := if rdS s = true then -(digs (rdU s)) else digs (rdU s)
def readI (s : List UInt8) : Option Int := if 1 ≤ (rdU s).length ∧ (rdU s).length ≤ 6 ∧ (rdU s).all digB = true ∧ Lib.itoa (rdV s) = s then some (rdV s) else none
theorem rdV_bd {s : List UInt8} (h1 : (rdU s).length ≤ 6) (h2 : (rdU s).all digB = true) : -999999 ≤ rdV s ∧ rdV s ≤ 999999 := by
  have hb := digs_bd (rdU s).length (rdU s) rfl h2
  have : (10 : Int) ^ (rdU s).length ≤ 10 ^ 6 := by
    have h7 : (10 : Nat) ^ (rdU s).length ≤ 10 ^ 6 := Nat.pow_le_pow_right (by decide) h1
    exact_mod_cast h7
  have e : (10 : Int) ^ 6 = 1000000 := by decide
  unfold rdV
  split <;> omega
theorem readI_itoa {n : Int} (h0 : -999999 ≤ n) (h1 : n ≤ 999999) : readI (Lib.itoa n) = some n := by
  by_cases hn : 0 ≤ n
  · obtain ⟨u, rfl⟩ := Int.eq_ofNat_of_zero_le hn
    rw [itoa_dec]
    have hs : rdS (Lib.decDigits u) = false := by
      unfold rdS
      cases hd : Lib.decDigits u with
      | nil => rfl
      | cons b r =>
        have := decDigits_dig u b (by rw [hd]; simp)
        have hb : b ≠ 45 := fun e => by rw [e] at this; revert this; decide
        simp [hb]
    have hu : rdU (Lib.decDigits u) = Lib.decDigits u := by unfold rdU; rw [if_neg (by rw [hs]; decide)]
    have hv : rdV (Lib.decDigits u) = (u : Int) := by unfold rdV; rw [if_neg (by rw [hs]; decide), hu, digs_dec]
    unfold readI
    rw [hv, hu, if_pos ⟨List.length_pos_iff.2 (decDigits_ne u), dec_len 5 u (by omega), dec_all u, itoa_dec u⟩]
  · obtain ⟨u, rfl⟩ : ∃ u : Nat, n = -(u : Int) := ⟨n.natAbs, by omega⟩
    rw [itoa_neg u (by omega)]
    have hs : rdS (45 :: Lib.decDigits u) = true := by
      have := List.length_pos_iff.2 (decDigits_ne u)
      simp only [rdS, List.length_cons, List.head?_cons, beq_self_eq_true, Bool.and_true, decide_eq_true_eq]
      omega
    have hu : rdU (45 :: Lib.decDigits u) = Lib.decDigits u := by unfold rdU; rw [if_pos hs]; rfl
    have hv : rdV (45 :: Lib.decDigits u) = -(u : Int) := by unfold rdV; rw [if_pos hs, hu, digs_dec]
    unfold readI
    rw [hv, hu, if_pos ⟨List.length_pos_iff.2 (decDigits_ne u), dec_len 5 u (by omega), dec_all u, itoa_neg u (by omega)⟩]
theorem readI_some {s : List UInt8} {n : Int} (h : readI s = some n) : Lib.itoa n = s ∧ -999999 ≤ n ∧ n ≤ 999999 := by
  unfold readI at h
  split at h
  · rename_i hc
    injection h with h
    subst h
    exact ⟨hc.2.2.2, rdV_bd hc.2.1 hc.2.2.1⟩
  · cases h
end Go.Pe.Tryd
set_option maxRecDepth 100000
set_option maxHeartbeats 4000000
set_option linter.all false
namespace Go.Pe.Tryd
open Nat (reduceEqDiff reduceAdd reduceSub reduceLT)
open Go.Proofs.Tryd
def isCount (n : Int) : Bool := within n 0 9999
theorem isCount_fn (n : Int) : Fn prog 28 [.int .i64 n] (fun rs => rs = [.bool (isCount n)]) := by
  refine Fn_of' (fn := f28) (by exact func28) c28 r28 (n := 5) (by rfl) (rv := [.tmp 2]) (by rfl) (by simp) ?_
  unfold m28
  try simp only [wQ]
  simp only [↓wA, ↓wC, wB, frzBE, frzBS, reduceEqDiff, reduceAdd, reduceSub, reduceIte, reduceCtorEq, Nat.reduceBEq, reduceLT]
  refine call_det (within_fn _ _ _) rfl rfl ?_
  simp only [isCount, ↓wA, ↓wC, wB, frzBE, frzBS, reduceEqDiff, reduceAdd, reduceSub, reduceIte, reduceCtorEq, Nat.reduceBEq, reduceLT]
theorem l26Count_fn (n : Int) : Fn prog 44 [.int .i64 n] (fun rs => rs = [.bool (isCount n)]) := by
  refine Fn_of' (fn := f44) (by exact func44) c44 r44 (n := 5) (by rfl) (rv := [.tmp 2]) (by rfl) (by simp) ?_
  unfold m44
  try simp only [wQ]
  simp only [↓wA, ↓wC, wB, frzBE, frzBS, reduceEqDiff, reduceAdd, reduceSub, reduceIte, reduceCtorEq, Nat.reduceBEq, reduceLT]
  refine call_det (l1In_fn _ _ _) rfl rfl ?_
  simp only [isCount, ↓wA, ↓wC, wB, frzBE, frzBS, reduceEqDiff, reduceAdd, reduceSub, reduceIte, reduceCtorEq, Nat.reduceBEq, reduceLT]
structure Row where
  y : Int
  m : Int
  k : Int
  x : Int
  g : Int
def Row.d (r : Row) : D := .st (.cons (.int .i64 r.y) (.cons (.int .i64 r.m) (.cons (.int .i64 r.k) (.cons (.int .i64 r.x) (.cons (.int .i64 r.g) .nil)))))
def Row.ok (r : Row) : Bool := within r.y 1900 2200 && (isCount r.m && (isCount r.k && (isCount r.x && isCount r.g)))
theorem isYearRow_fn (r : Row) : Fn prog 13 [r.d] (fun rs => rs = [.bool r.ok]) := by
  refine Fn_of' (fn := f13) (by exact func13) c13 r13 (n := 26) (by rfl) (rv := [.tmp 2]) (by rfl) (by simp) ?_
  unfold m13
  try simp only [wQ]
  simp only [Row.d]
  repeat' (first | (simp only [↓wA, ↓wC, wB, frzBE, frzBS, reduceEqDiff, reduceAdd, reduceSub, reduceIte, reduceCtorEq, Nat.reduceBEq, reduceLT]) | (refine call_det (within_fn _ _ _) rfl rfl ?_) | (refine callP_det (within_fn _ _ _) rfl rfl ?_) | (refine call_det (isCount_fn _) rfl rfl ?_) | (refine callP_det (isCount_fn _) rfl rfl ?_) | ((first | apply execG_split | apply execC_split | apply onPick_split) <;> intro h <;> try simp only [h]))
  all_goals simp [Row.ok, *]
theorem l26One_fn (r : Row) : Fn prog 25 [r.d] (fun rs => rs = [.bool r.ok]) := by
  refine Fn_of' (fn := f25) (by exact func25) c25 r25 (n := 26) (by rfl) (rv := [.tmp 2]) (by rfl) (by simp) ?_
  unfold m25
  try simp only [wQ]
  simp only [Row.d]
  repeat' (first | (simp only [↓wA, ↓wC, wB, frzBE, frzBS, reduceEqDiff, reduceAdd, reduceSub, reduceIte, reduceCtorEq, Nat.reduceBEq, reduceLT]) | (refine call_det (l1In_fn _ _ _) rfl rfl ?_) | (refine callP_det (l1In_fn _ _ _) rfl rfl ?_) | (refine call_det (l26Count_fn _) rfl rfl ?_) | (refine callP_det (l26Count_fn _) rfl rfl ?_) | ((first | apply execG_split | apply execC_split | apply onPick_split) <;> intro h <;> try simp only [h]))
  all_goals simp [Row.ok, *]
end Go.Pe.Tryd
set_option maxRecDepth 100000
set_option maxHeartbeats 4000000
set_option linter.all false
namespace Go.Pe.Tryd
open Nat (reduceEqDiff reduceAdd reduceSub reduceLT)
open Go.Proofs.Tryd
end Go.Pe.Tryd
set_option maxRecDepth 100000
set_option maxHeartbeats 4000000
set_option linter.all false
namespace Go.Pe.Tryd
open Nat (reduceEqDiff reduceAdd reduceSub reduceLT)
open Go.Proofs.Tryd
theorem Row.unown (r : Row) : r.d.unown = r.d := rfl
theorem Row.noOwn (r : Row) : r.d.noOwn = true := rfl
theorem Row.allOwn (r : Row) : r.d.allOwn = true := rfl
abbrev rowsD (xs : List Row) : D := dl Row.d xs
theorem rd_row {o : List Ob} {K : SV → Prop} {r : Row} : stepRd o (some 5) r.d K = K (.d r.d) := by simp [Row.d, stepRd, D.size, D.noOwn]
theorem isV_row {r : Row} : r.d.isV = true := rfl
theorem size_row {r : Row} : r.d.size = 5 := rfl
end Go.Pe.Tryd
set_option maxRecDepth 100000
set_option maxHeartbeats 4000000
set_option linter.all false
namespace Go.Pe.Tryd
open Nat (reduceEqDiff reduceAdd reduceSub reduceLT)
open Go.Proofs.Tryd
def Row.gone (r : Row) : Int := r.k + r.x + r.g
theorem ok_bounds {r : Row} (h : r.ok = true) : 1900 ≤ r.y ∧ r.y ≤ 2200 ∧ 0 ≤ r.m ∧ r.m ≤ 9999 ∧ 0 ≤ r.k ∧ r.k ≤ 9999 ∧ 0 ≤ r.x ∧ r.x ≤ 9999 ∧ 0 ≤ r.g ∧ r.g ≤ 9999 := by
  simp only [Row.ok, isCount, within, Bool.and_eq_true, decide_eq_true_eq] at h
  omega
theorem l26Gone_fn (r : Row) (h : r.ok = true) : Fn prog 43 [r.d] (fun rs => rs = [.int .i64 r.gone]) := by
  have hb := ok_bounds h
  refine Fn_of' (fn := f43) (by exact func43) c43 r43 (n := 11) (by rfl) (rv := [.tmp 2]) (by rfl) (by simp) ?_
  unfold m43
  try simp only [wQ]
  simp only [Row.d]
  repeat' (first | (simp only [↓wA, ↓wC, wB, frzBE, frzBS, reduceEqDiff, reduceAdd, reduceSub, reduceIte, reduceCtorEq, Nat.reduceBEq, reduceLT]) | (refine onI_bare (by simp only [InR]; omega) ?_) | ((first | apply execG_split | apply execC_split | apply onPick_split) <;> intro h <;> try simp only [h]))
  rfl
theorem gone_fn (r : Row) (h : r.ok = true) : Fn prog 32 [r.d] (fun rs => rs = [.int .i64 r.gone]) := by
  have hb := ok_bounds h
  refine Fn_of' (fn := f32) (by exact func32) c32 r32 (n := 11) (by rfl) (rv := [.tmp 2]) (by rfl) (by simp) ?_
  unfold m32
  try simp only [wQ]
  simp only [Row.d]
  repeat' (first | (simp only [↓wA, ↓wC, wB, frzBE, frzBS, reduceEqDiff, reduceAdd, reduceSub, reduceIte, reduceCtorEq, Nat.reduceBEq, reduceLT]) | (refine onI_bare (by simp only [InR]; omega) ?_) | ((first | apply execG_split | apply execC_split | apply onPick_split) <;> intro h <;> try simp only [h]))
  rfl
theorem fa_row0 {r : Row} {K : SV → Prop} : stepFa 0 0 (.d (.ptr r.d)) K = K (.d (.ptr (.int .i64 r.y))) := by simp [Row.d, stepFa, D.pre, D.nth]
theorem fa_row1 {r : Row} {K : SV → Prop} : stepFa 1 1 (.d (.ptr r.d)) K = K (.d (.ptr (.int .i64 r.m))) := by simp [Row.d, stepFa, D.pre, D.nth, D.size]
end Go.Pe.Tryd
set_option maxRecDepth 100000
set_option maxHeartbeats 4000000
set_option linter.all false
namespace Go.Pe.Tryd
open Nat (reduceEqDiff reduceAdd reduceSub reduceLT)
open Go.Proofs.Tryd Go.Sort
theorem Ext.grow {w : World} (k : Nat) (os : Array Obj) : Ext w (Go.Sort.grow (w.drewN k) os) := by
  refine ⟨rfl, rfl, rfl, ?_, ?_⟩
  · simp [Go.Sort.grow, World.drewN]
  · intro b hb
    simp only [Go.Sort.grow]
    exact Array.getElem?_append_left (xs := w.heap) (ys := os) hb
theorem itoa_fn (n : Int) (h : InR .i64 n) : Fn prog 50 [.int .i64 n] (fun rs => rs = [.str (Lib.itoa n)]) :=
  Fn_lib rfl rfl fun w hF => (Go.Proofs.Tryd.strconv_Itoa n (by simp only [InR] at h; omega) (by simp only [InR] at h; omega) w (tabOf hF)).mono (by
    rintro e w' ⟨rfl, k, os, rfl⟩
    exact ⟨rfl, Ext.grow k os⟩)
theorem decimal_fn (n : Int) (h : InR .i64 n) : Fn prog 40 [.int .i64 n] (fun rs => rs = [.str (Lib.itoa n)]) := by
  refine Fn_of' (fn := f40) (by exact func40) c40 r40 (n := 5) (by rfl) (rv := [.tmp 2]) (by rfl) (by simp) ?_
  unfold m40
  try simp only [wQ]
  repeat' (first | (simp only [↓wA, ↓wC, wB, frzBE, frzBS, reduceEqDiff, reduceAdd, reduceSub, reduceIte, reduceCtorEq, Nat.reduceBEq, reduceLT]) | (refine call_det (itoa_fn n h) rfl rfl ?_) | (refine callP_det (itoa_fn n h) rfl rfl ?_) | ((first | apply execG_split | apply execC_split | apply onPick_split) <;> intro h <;> try simp only [h]))
theorem digit_cut : ∀ d : Fin 10, ((([48, 49, 50, 51, 52, 53, 54, 55, 56, 57] : List UInt8).take (d.val + 1)).drop d.val) = [UInt8.ofNat (48 + d.val)] := by decide
theorem decDigits_small {u : Nat} (h : u < 10) : Lib.decDigits u = [UInt8.ofNat (48 + u)] := by
  rw [Lib.decDigits, dif_pos h]
theorem decDigits_more {u : Nat} (h : ¬ u < 10) : Lib.decDigits u = Lib.decDigits (u / 10) ++ [UInt8.ofNat (48 + u % 10)] := by
  rw [Lib.decDigits, dif_neg h]
theorem cut_digit (d : Nat) (h : d < 10) : ((([48, 49, 50, 51, 52, 53, 54, 55, 56, 57] : List UInt8).take (d + 1)).drop d) = [UInt8.ofNat (48 + d)] := digit_cut ⟨d, h⟩
theorem itoa_nat (u : Nat) : Lib.itoa (u : Int) = Lib.decDigits u := by
  unfold Lib.itoa
  rw [if_neg (by omega)]
  simp
theorem decDigits_le (u : Nat) (h : u ≤ 9223372036854775807) : (Lib.decDigits u).length ≤ 21 := by
  rw [← itoa_nat]
  exact Lib.itoa_length_le (u : Int) (by omega) (by omega)
theorem itoa_le (n : Int) (h : InR .i64 n) : (Lib.itoa n).length ≤ 21 := by
  simp only [InR] at h
  exact Lib.itoa_length_le n (by omega) (by omega)
theorem l1Num_nat : ∀ (u : Nat), u ≤ 9223372036854775807 → Fn prog 41 [.int .i64 (u : Int)] (fun rs => rs = [.str (Lib.decDigits u)]) := by
  intro u
  induction u using Nat.strongRecOn with
  | _ u ih =>
    intro hu
    have h0 : decide ((u : Int) < 0) = false := decide_eq_false (by omega)
    refine Fn_of' (fn := f41) (by exact func41) c41 r41 (n := 25) (by rfl) (rv := [.tmp 2]) (by rfl) (by simp) ?_
    unfold m41
    try simp only [wQ]
    try simp only [h0, ↓wA, ↓wC, wB, frzBE, frzBS, reduceEqDiff, reduceAdd, reduceSub, reduceIte, reduceCtorEq, Nat.reduceBEq, reduceLT]
    by_cases h : u < 10
    · have hd : decide ((u : Int) < 10) = true := decide_eq_true (by omega)
      have hp : (0 : Int) ≤ (u : Int) := by omega
      try simp only [hd, ↓wA, ↓wC, wB, frzBE, frzBS, reduceEqDiff, reduceAdd, reduceSub, reduceIte, reduceCtorEq, Nat.reduceBEq, reduceLT]
      refine onI_bare (by simp only [InR]; omega) ?_
      try simp only [hd, hp, ↓wA, ↓wC, wB, frzBE, frzBS, reduceEqDiff, reduceAdd, reduceSub, reduceIte, reduceCtorEq, Nat.reduceBEq, reduceLT]
      refine onC_i ⟨by omega, by omega⟩ ?_
      rw [show ((u : Int) + 1).toNat = u + 1 by omega, Int.toNat_natCast, cut_digit u h, decDigits_small h]
    · have hd : decide ((u : Int) < 10) = false := decide_eq_false (by omega)
      have hq : ((u : Int)).tdiv 10 = ((u / 10 : Nat) : Int) := by rw [Int.tdiv_eq_ediv_of_nonneg (by omega)]; omega
      have hr : ((u : Int)).tmod 10 = ((u % 10 : Nat) : Int) := by rw [Int.tmod_eq_emod_of_nonneg (by omega)]; omega
      try simp only [hd, hq, hr, ↓wA, ↓wC, wB, frzBE, frzBS, reduceEqDiff, reduceAdd, reduceSub, reduceIte, reduceCtorEq, Nat.reduceBEq, reduceLT]
      refine onC_i (by decide) ?_
      refine onI_bare (by simp only [InR]; omega) ?_
      refine callP_det (ih (u / 10) (by omega) (by omega)) rfl rfl ?_
      try simp only [hr, ↓wA, ↓wC, wB, frzBE, frzBS, reduceEqDiff, reduceAdd, reduceSub, reduceIte, reduceCtorEq, Nat.reduceBEq, reduceLT]
      refine onC_i (by decide) ?_
      refine onC_i (by decide) ?_
      refine onI_bare (by simp only [InR]; omega) ?_
      have hp : (0 : Int) ≤ ((u % 10 : Nat) : Int) := by omega
      try simp only [hp, ↓wA, ↓wC, wB, frzBE, frzBS, reduceEqDiff, reduceAdd, reduceSub, reduceIte, reduceCtorEq, Nat.reduceBEq, reduceLT]
      refine onC_i ⟨by omega, by omega⟩ ?_
      rw [show (((u % 10 : Nat) : Int) + 1).toNat = u % 10 + 1 by omega, Int.toNat_natCast, cut_digit (u % 10) (by omega)]
      try simp only [↓wA, ↓wC, wB, frzBE, frzBS, reduceEqDiff, reduceAdd, reduceSub, reduceIte, reduceCtorEq, Nat.reduceBEq, reduceLT]
      refine onC_i (by have := decDigits_le (u / 10) (by omega); omega) ?_
      rw [decDigits_more h]
theorem l1Num_fn (n : Int) (h0 : 0 ≤ n) (h : InR .i64 n) : Fn prog 41 [.int .i64 n] (fun rs => rs = [.str (Lib.itoa n)]) := by
  obtain ⟨u, rfl⟩ := Int.eq_ofNat_of_zero_le h0
  rw [itoa_nat]
  exact l1Num_nat u (by simp only [InR] at h; omega)
end Go.Pe.Tryd
set_option maxRecDepth 100000
set_option maxHeartbeats 4000000
set_option linter.all false
namespace Go.Pe.Tryd
open Nat (reduceEqDiff reduceAdd reduceSub reduceLT)
open Go.Proofs.Tryd
def ylB (r : Row) : List UInt8 := Lib.itoa r.y ++ 58 :: 32 :: 43 :: (Lib.itoa r.m ++ 32 :: 45 :: Lib.itoa r.gone)
def ylX (r : Row) : List UInt8 := 32 :: 40 :: (Lib.itoa r.x ++ [32, 100, 101, 115, 116, 114, 111, 121, 101, 100, 41])
def yl (r : Row) : List UInt8 := if 0 < r.x then ylB r ++ ylX r else ylB r
theorem small_InR {n : Int} (h0 : 0 ≤ n) (h1 : n ≤ 1000000000) : InR .i64 n := by simp only [InR]; omega
theorem small_len {n : Int} (h0 : 0 ≤ n) (h1 : n ≤ 1000000000) : (Lib.itoa n).length ≤ 21 := itoa_le n (small_InR h0 h1)
theorem yearLine_fn (r : Row) (h : r.ok = true) : Fn prog 24 [r.d] (fun rs => rs = [.str (yl r)]) := by
  have hb := ok_bounds h
  have hg : r.gone = r.k + r.x + r.g := rfl
  have l1 := small_len (n := r.y) (by omega) (by omega)
  have l2 := small_len (n := r.m) (by omega) (by omega)
  have l3 := small_len (n := r.gone) (by omega) (by omega)
  have l4 := small_len (n := r.x) (by omega) (by omega)
  have hgo := gone_fn r h
  have d1 := decimal_fn r.y (small_InR (by omega) (by omega))
  have d2 := decimal_fn r.m (small_InR (by omega) (by omega))
  have d3 := decimal_fn r.gone (small_InR (by omega) (by omega))
  have d4 := decimal_fn r.x (small_InR (by omega) (by omega))
  by_cases hx : 0 < r.x
  · have hd : decide (0 < r.x) = true := decide_eq_true hx
    have hd' : decide (r.x > 0) = true := decide_eq_true hx
    refine Fn_of' (fn := f24) (by exact func24) c24 r24 (n := 28) (by rfl) (rv := [.tmp 2]) (by rfl) (by simp) ?_
    unfold m24
    try simp only [wQ]
    simp only [Row.d] at hgo ⊢
    repeat' (first | (simp only [hd, hd', ↓wA, ↓wC, wB, frzBE, frzBS, reduceEqDiff, reduceAdd, reduceSub, reduceIte, reduceCtorEq, Nat.reduceBEq, reduceLT]) | (refine callP_det d1 rfl rfl ?_) | (refine callP_det d2 rfl rfl ?_) | (refine callP_det hgo rfl rfl ?_) | (refine callP_det d3 rfl rfl ?_) | (refine callP_det d4 rfl rfl ?_) | (refine call_det d1 rfl rfl ?_) | (refine call_det d2 rfl rfl ?_) | (refine call_det hgo rfl rfl ?_) | (refine call_det d3 rfl rfl ?_) | (refine call_det d4 rfl rfl ?_) | (refine onC_i (by (try simp only [List.length_append, List.length_cons, List.length_nil]); omega) ?_) | ((first | apply execG_split | apply execC_split | apply onPick_split) <;> intro h <;> try simp only [h]))
    all_goals simp [yl, ylB, ylX, hx]
  · have hd : decide (0 < r.x) = false := decide_eq_false hx
    have hd' : decide (r.x > 0) = false := decide_eq_false hx
    refine Fn_of' (fn := f24) (by exact func24) c24 r24 (n := 28) (by rfl) (rv := [.tmp 2]) (by rfl) (by simp) ?_
    unfold m24
    try simp only [wQ]
    simp only [Row.d] at hgo ⊢
    repeat' (first | (simp only [hd, hd', ↓wA, ↓wC, wB, frzBE, frzBS, reduceEqDiff, reduceAdd, reduceSub, reduceIte, reduceCtorEq, Nat.reduceBEq, reduceLT]) | (refine callP_det d1 rfl rfl ?_) | (refine callP_det d2 rfl rfl ?_) | (refine callP_det hgo rfl rfl ?_) | (refine callP_det d3 rfl rfl ?_) | (refine call_det d1 rfl rfl ?_) | (refine call_det d2 rfl rfl ?_) | (refine call_det hgo rfl rfl ?_) | (refine call_det d3 rfl rfl ?_) | (refine onC_i (by (try simp only [List.length_append, List.length_cons, List.length_nil]); omega) ?_) | ((first | apply execG_split | apply execC_split | apply onPick_split) <;> intro h <;> try simp only [h]))
    all_goals simp [yl, ylB, ylX, hx]
theorem l26Line_fn (r : Row) (h : r.ok = true) : Fn prog 26 [r.d] (fun rs => rs = [.str (yl r)]) := by
  have hb := ok_bounds h
  have hg : r.gone = r.k + r.x + r.g := rfl
  have l1 := small_len (n := r.y) (by omega) (by omega)
  have l2 := small_len (n := r.m) (by omega) (by omega)
  have l3 := small_len (n := r.gone) (by omega) (by omega)
  have l4 := small_len (n := r.x) (by omega) (by omega)
  have hgo := l26Gone_fn r h
  have d1 := l1Num_fn r.y (by omega) (small_InR (by omega) (by omega))
  have d2 := l1Num_fn r.m (by omega) (small_InR (by omega) (by omega))
  have d3 := l1Num_fn r.gone (by omega) (small_InR (by omega) (by omega))
  have d4 := l1Num_fn r.x (by omega) (small_InR (by omega) (by omega))
  by_cases hx : 0 < r.x
  · have hd : decide (0 < r.x) = true := decide_eq_true hx
    have hd' : decide (r.x > 0) = true := decide_eq_true hx
    refine Fn_of' (fn := f26) (by exact func26) c26 r26 (n := 28) (by rfl) (rv := [.tmp 2]) (by rfl) (by simp) ?_
    unfold m26
    try simp only [wQ]
    simp only [Row.d] at hgo ⊢
    repeat' (first | (simp only [hd, hd', ↓wA, ↓wC, wB, frzBE, frzBS, reduceEqDiff, reduceAdd, reduceSub, reduceIte, reduceCtorEq, Nat.reduceBEq, reduceLT]) | (refine callP_det d1 rfl rfl ?_) | (refine callP_det d2 rfl rfl ?_) | (refine callP_det hgo rfl rfl ?_) | (refine callP_det d3 rfl rfl ?_) | (refine callP_det d4 rfl rfl ?_) | (refine call_det d1 rfl rfl ?_) | (refine call_det d2 rfl rfl ?_) | (refine call_det hgo rfl rfl ?_) | (refine call_det d3 rfl rfl ?_) | (refine call_det d4 rfl rfl ?_) | (refine onC_i (by (try simp only [List.length_append, List.length_cons, List.length_nil]); omega) ?_) | ((first | apply execG_split | apply execC_split | apply onPick_split) <;> intro h <;> try simp only [h]))
    all_goals simp [yl, ylB, ylX, hx]
  · have hd : decide (0 < r.x) = false := decide_eq_false hx
    have hd' : decide (r.x > 0) = false := decide_eq_false hx
    refine Fn_of' (fn := f26) (by exact func26) c26 r26 (n := 28) (by rfl) (rv := [.tmp 2]) (by rfl) (by simp) ?_
    unfold m26
    try simp only [wQ]
    simp only [Row.d] at hgo ⊢
    repeat' (first | (simp only [hd, hd', ↓wA, ↓wC, wB, frzBE, frzBS, reduceEqDiff, reduceAdd, reduceSub, reduceIte, reduceCtorEq, Nat.reduceBEq, reduceLT]) | (refine callP_det d1 rfl rfl ?_) | (refine callP_det d2 rfl rfl ?_) | (refine callP_det hgo rfl rfl ?_) | (refine callP_det d3 rfl rfl ?_) | (refine call_det d1 rfl rfl ?_) | (refine call_det d2 rfl rfl ?_) | (refine call_det hgo rfl rfl ?_) | (refine call_det d3 rfl rfl ?_) | (refine onC_i (by (try simp only [List.length_append, List.length_cons, List.length_nil]); omega) ?_) | ((first | apply execG_split | apply execC_split | apply onPick_split) <;> intro h <;> try simp only [h]))
    all_goals simp [yl, ylB, ylX, hx]
def ylR (r : Row) : List D := if r.ok = true then [.str (yl r), .bool true] else [.str [], .bool false]
theorem implYearLine_fn (r : Row) : Fn prog 11 [r.d] (fun rs => rs = ylR r) := by
  have ho := isYearRow_fn r
  cases h : r.ok with
  | true =>
    rw [h] at ho
    have hl := yearLine_fn r h
    refine Fn_of' (fn := f11) (by exact func11) c11 r11 (n := 9) (by rfl) (rv := [.tmp 2, .tmp 3]) (by rfl) (by simp) ?_
    unfold m11
    try simp only [wQ]
    simp only [Row.d] at ho hl ⊢
    repeat' (first | (simp only [↓wA, ↓wC, wB, frzBE, frzBS, reduceEqDiff, reduceAdd, reduceSub, reduceIte, reduceCtorEq, Nat.reduceBEq, reduceLT]) | (refine call_det ho rfl rfl ?_) | (refine call_det hl rfl rfl ?_) | ((first | apply execG_split | apply execC_split | apply onPick_split) <;> intro h <;> try simp only [h]))
    all_goals simp [ylR, h]
  | false =>
    rw [h] at ho
    refine Fn_of' (fn := f11) (by exact func11) c11 r11 (n := 9) (by rfl) (rv := [.tmp 2, .tmp 3]) (by rfl) (by simp) ?_
    unfold m11
    try simp only [wQ]
    simp only [Row.d] at ho ⊢
    repeat' (first | (simp only [↓wA, ↓wC, wB, frzBE, frzBS, reduceEqDiff, reduceAdd, reduceSub, reduceIte, reduceCtorEq, Nat.reduceBEq, reduceLT]) | (refine call_det ho rfl rfl ?_) | ((first | apply execG_split | apply execC_split | apply onPick_split) <;> intro h <;> try simp only [h]))
    all_goals simp [ylR, h]
theorem specYearLine_fn (r : Row) : Fn prog 12 [r.d] (fun rs => rs = ylR r) := by
  have ho := l26One_fn r
  cases h : r.ok with
  | true =>
    rw [h] at ho
    have hl := l26Line_fn r h
    refine Fn_of' (fn := f12) (by exact func12) c12 r12 (n := 9) (by rfl) (rv := [.tmp 2, .tmp 3]) (by rfl) (by simp) ?_
    unfold m12
    try simp only [wQ]
    simp only [Row.d] at ho hl ⊢
    repeat' (first | (simp only [↓wA, ↓wC, wB, frzBE, frzBS, reduceEqDiff, reduceAdd, reduceSub, reduceIte, reduceCtorEq, Nat.reduceBEq, reduceLT]) | (refine call_det ho rfl rfl ?_) | (refine call_det hl rfl rfl ?_) | ((first | apply execG_split | apply execC_split | apply onPick_split) <;> intro h <;> try simp only [h]))
    all_goals simp [ylR, h]
  | false =>
    rw [h] at ho
    refine Fn_of' (fn := f12) (by exact func12) c12 r12 (n := 9) (by rfl) (rv := [.tmp 2, .tmp 3]) (by rfl) (by simp) ?_
    unfold m12
    try simp only [wQ]
    simp only [Row.d] at ho ⊢
    repeat' (first | (simp only [↓wA, ↓wC, wB, frzBE, frzBS, reduceEqDiff, reduceAdd, reduceSub, reduceIte, reduceCtorEq, Nat.reduceBEq, reduceLT]) | (refine call_det ho rfl rfl ?_) | ((first | apply execG_split | apply execC_split | apply onPick_split) <;> intro h <;> try simp only [h]))
    all_goals simp [ylR, h]
end Go.Pe.Tryd
set_option maxRecDepth 100000
set_option maxHeartbeats 4000000
set_option linter.all false
namespace Go.Pe.Tryd
open Nat (reduceEqDiff reduceAdd reduceSub reduceLT)
def sufD : List UInt8 := [32, 100, 101, 115, 116, 114, 111, 121, 101, 100, 41]
def Row.canon (r : Row) : Prop := r.k = min (r.k + r.g) 9999
def rowI (s : List UInt8) : Row :=
  ⟨dOf (Lib.cut s [58, 32, 43]).1, dOf (Lib.cut (Lib.cut s [58, 32, 43]).2.1 [32, 45]).1,
    min (dOf (Lib.cut (Lib.cut (Lib.cut s [58, 32, 43]).2.1 [32, 45]).2.1 [32, 40]).1 - max (dOf (cutSuf (Lib.cut (Lib.cut (Lib.cut s [58, 32, 43]).2.1 [32, 45]).2.1 [32, 40]).2.1 sufD)) 0) 9999,
    max (dOf (cutSuf (Lib.cut (Lib.cut (Lib.cut s [58, 32, 43]).2.1 [32, 45]).2.1 [32, 40]).2.1 sufD)) 0,
    (dOf (Lib.cut (Lib.cut (Lib.cut s [58, 32, 43]).2.1 [32, 45]).2.1 [32, 40]).1 - max (dOf (cutSuf (Lib.cut (Lib.cut (Lib.cut s [58, 32, 43]).2.1 [32, 45]).2.1 [32, 40]).2.1 sufD)) 0) -
      min (dOf (Lib.cut (Lib.cut (Lib.cut s [58, 32, 43]).2.1 [32, 45]).2.1 [32, 40]).1 - max (dOf (cutSuf (Lib.cut (Lib.cut (Lib.cut s [58, 32, 43]).2.1 [32, 45]).2.1 [32, 40]).2.1 sufD)) 0) 9999⟩
theorem rowI_canon (s : List UInt8) : (rowI s).canon := by
  unfold Row.canon rowI
  simp only
  omega
theorem itoa_no (n : Int) (h : 0 ≤ n) (c : UInt8) (hc : c.toNat < 48 ∨ 57 < c.toNat) : c ∉ Lib.itoa n := by
  obtain ⟨u, rfl⟩ := Int.eq_ofNat_of_zero_le h
  rw [itoa_dec]
  intro hm
  have := decDigits_dig u c hm
  omega
theorem rowI_yl {r : Row} (h : r.ok = true) (hc : r.canon) : rowI (yl r) = r := by
  have hb := ok_bounds h
  have hg : r.gone = r.k + r.x + r.g := rfl
  unfold Row.canon at hc
  have n1 := itoa_no r.y (by omega) 58 (by decide)
  have n2 := itoa_no r.m (by omega) 32 (by decide)
  have n3 := itoa_no r.gone (by omega) 32 (by decide)
  have d1 := dOf_itoa (n := r.y) (by omega) (by omega)
  have d2 := dOf_itoa (n := r.m) (by omega) (by omega)
  have d3 := dOf_itoa (n := r.gone) (by omega) (by omega)
  have d4 := dOf_itoa (n := r.x) (by omega) (by omega)
  by_cases hx : 0 < r.x
  · have e1 : Lib.cut (yl r) [58, 32, 43] = (Lib.itoa r.y, Lib.itoa r.m ++ 32 :: 45 :: (Lib.itoa r.gone ++ ylX r), true) := by
      have : yl r = Lib.itoa r.y ++ (58 :: ([32, 43] ++ (Lib.itoa r.m ++ 32 :: 45 :: (Lib.itoa r.gone ++ ylX r)))) := by
        unfold yl; rw [if_pos hx]; unfold ylB; simp
      rw [this]; exact cut_at n1
    have e2 : Lib.cut (Lib.itoa r.m ++ 32 :: 45 :: (Lib.itoa r.gone ++ ylX r)) [32, 45] = (Lib.itoa r.m, Lib.itoa r.gone ++ ylX r, true) := cut_at (sep := [45]) n2
    have e3 : Lib.cut (Lib.itoa r.gone ++ ylX r) [32, 40] = (Lib.itoa r.gone, Lib.itoa r.x ++ sufD, true) := cut_at (sep := [40]) n3
    unfold rowI
    rw [e1]
    simp only
    rw [e2]
    simp only
    rw [e3]
    simp only
    rw [cutSuf_app, d1, d2, d3, d4, show max r.x 0 = r.x by omega, show min (r.gone - r.x) 9999 = r.k by omega, show r.gone - r.x - r.k = r.g by omega]
  · have e1 : Lib.cut (yl r) [58, 32, 43] = (Lib.itoa r.y, Lib.itoa r.m ++ 32 :: 45 :: Lib.itoa r.gone, true) := by
      have : yl r = Lib.itoa r.y ++ (58 :: ([32, 43] ++ (Lib.itoa r.m ++ 32 :: 45 :: Lib.itoa r.gone))) := by
        unfold yl; rw [if_neg hx]; unfold ylB; simp
      rw [this]; exact cut_at n1
    have e2 : Lib.cut (Lib.itoa r.m ++ 32 :: 45 :: Lib.itoa r.gone) [32, 45] = (Lib.itoa r.m, Lib.itoa r.gone, true) := cut_at (sep := [45]) n2
    have e3 : Lib.cut (Lib.itoa r.gone) [32, 40] = (Lib.itoa r.gone, [], false) := cut_not n3
    have e4 : dOf (cutSuf [] sufD) = -1 := rfl
    unfold rowI
    rw [e1]
    simp only
    rw [e2]
    simp only
    rw [e3]
    simp only
    rw [e4, d1, d2, d3, show max (-1 : Int) 0 = r.x by omega, show min (r.gone - r.x) 9999 = r.k by omega, show r.gone - r.x - r.k = r.g by omega]
def pyOK (s : List UInt8) : Bool := (rowI s).ok && decide (yl (rowI s) = s)
def pyR (s : List UInt8) : List D := if pyOK s = true then [.int .i64 (rowI s).y, .int .i64 (rowI s).m, .int .i64 (rowI s).gone, .bool true] else [.int .i64 0, .int .i64 0, .int .i64 0, .bool false]
theorem pyR_of {s : List UInt8} {r : Row} (h : r.ok = true) (hc : r.canon) (hs : yl r = s) : rowI s = r ∧ pyOK s = true := by
  have e : rowI s = r := by rw [← hs]; exact rowI_yl h hc
  refine ⟨e, ?_⟩
  unfold pyOK
  rw [e, h, hs]
  simp
def ylW (r : Row) : List (List UInt8) := if 0 < r.x then [Lib.itoa r.y ++ [58], 43 :: Lib.itoa r.m, 45 :: Lib.itoa r.gone, 40 :: Lib.itoa r.x, [100, 101, 115, 116, 114, 111, 121, 101, 100, 41]] else [Lib.itoa r.y ++ [58], 43 :: Lib.itoa r.m, 45 :: Lib.itoa r.gone]
theorem parts_yl {r : Row} (h : r.ok = true) : parts 32 (yl r) = ylW r := by
  have hb := ok_bounds h
  have hg : r.gone = r.k + r.x + r.g := rfl
  have n1 : (32 : UInt8) ∉ Lib.itoa r.y ++ [58] := by
    rw [List.mem_append, not_or]; exact ⟨itoa_no r.y (by omega) 32 (by decide), by decide⟩
  have n2 : (32 : UInt8) ∉ 43 :: Lib.itoa r.m := by
    rw [List.mem_cons, not_or]; exact ⟨by decide, itoa_no r.m (by omega) 32 (by decide)⟩
  have n3 : (32 : UInt8) ∉ 45 :: Lib.itoa r.gone := by
    rw [List.mem_cons, not_or]; exact ⟨by decide, itoa_no r.gone (by omega) 32 (by decide)⟩
  have n4 : (32 : UInt8) ∉ 40 :: Lib.itoa r.x := by
    rw [List.mem_cons, not_or]; exact ⟨by decide, itoa_no r.x (by omega) 32 (by decide)⟩
  have n5 : (32 : UInt8) ∉ ([100, 101, 115, 116, 114, 111, 121, 101, 100, 41] : List UInt8) := by decide
  unfold yl ylW
  by_cases hx : 0 < r.x
  · rw [if_pos hx, if_pos hx]
    have e : ylB r ++ ylX r = (Lib.itoa r.y ++ [58]) ++ 32 :: ((43 :: Lib.itoa r.m) ++ 32 :: ((45 :: Lib.itoa r.gone) ++ 32 :: ((40 :: Lib.itoa r.x) ++ 32 :: [100, 101, 115, 116, 114, 111, 121, 101, 100, 41]))) := by simp [ylB, ylX]
    rw [e, parts_cons n1, parts_cons n2, parts_cons n3, parts_cons n4, parts_none n5]
  · rw [if_neg hx, if_neg hx]
    have e : ylB r = (Lib.itoa r.y ++ [58]) ++ 32 :: ((43 :: Lib.itoa r.m) ++ 32 :: (45 :: Lib.itoa r.gone)) := by simp [ylB]
    rw [e, parts_cons n1, parts_cons n2, parts_none n3]
theorem yl_len {r : Row} (h : r.ok = true) : (yl r).length ≤ 60 := by
  have hb := ok_bounds h
  have hg : r.gone = r.k + r.x + r.g := rfl
  have ln : ∀ n : Int, 0 ≤ n → n ≤ 99999 → (Lib.itoa n).length ≤ 5 := fun n h0 h1 => by
    obtain ⟨u, rfl⟩ := Int.eq_ofNat_of_zero_le h0
    rw [itoa_dec]
    exact dec_len 4 u (by omega)
  have l1 := ln r.y (by omega) (by omega)
  have l2 := ln r.m (by omega) (by omega)
  have l3 := ln r.gone (by omega) (by omega)
  have l4 := ln r.x (by omega) (by omega)
  unfold yl
  split <;> simp only [ylB, ylX, List.length_append, List.length_cons, List.length_nil] <;> omega
def rdN (s : List UInt8) : Int := (readI s).getD 0
theorem rdN_bd (s : List UInt8) : -999999 ≤ rdN s ∧ rdN s ≤ 999999 := by
  unfold rdN
  cases h : readI s with
  | none => simp
  | some n => exact (readI_some h).2
structure Wd where
  w0 : List UInt8
  w1 : List UInt8
  w2 : List UInt8
  d : Int
def w3d : List (List UInt8) → Int
  | w3 :: _ => if 1 < w3.length then rdN (w3.drop 1) else 0
  | [] => 0
def wordsOf (s : List UInt8) : Option Wd := match parts 32 s with
  | w0 :: w1 :: w2 :: r => if s.length ≤ 60 ∧ 2 ≤ w0.length ∧ 2 ≤ w1.length ∧ 2 ≤ w2.length then some ⟨w0, w1, w2, w3d r⟩ else none
  | _ => none
def Wd.row (w : Wd) (gone : Int) : Row := ⟨rdN (w.w0.take (w.w0.length - 1)), rdN (w.w1.drop 1), min 9999 (gone - w.d), w.d, gone - w.d - min 9999 (gone - w.d)⟩
def spyR (s : List UInt8) : List D := match wordsOf s with
  | some w => match readI (w.w2.drop 1) with
    | some gone => if 0 ≤ w.d ∧ w.d ≤ gone ∧ (w.row gone).ok = true ∧ yl (w.row gone) = s then [.int .i64 (w.row gone).y, .int .i64 (w.row gone).m, .int .i64 gone, .bool true] else [.int .i64 0, .int .i64 0, .int .i64 0, .bool false]
    | none => [.int .i64 0, .int .i64 0, .int .i64 0, .bool false]
  | none => [.int .i64 0, .int .i64 0, .int .i64 0, .bool false]
theorem spyR_none {s : List UInt8} {w : Wd} (hw : wordsOf s = some w) (hg : readI (w.w2.drop (1 : Int).toNat) = none) : spyR s = [.int .i64 0, .int .i64 0, .int .i64 0, .bool false] := by
  have hg' : readI (w.w2.drop 1) = none := hg
  unfold spyR
  simp only [hw, hg']
theorem spyR_some {s : List UInt8} {w : Wd} {g : Int} (hw : wordsOf s = some w) (hg : readI (w.w2.drop (1 : Int).toNat) = some g) : spyR s = if 0 ≤ w.d ∧ w.d ≤ g ∧ (w.row g).ok = true ∧ yl (w.row g) = s then [.int .i64 (w.row g).y, .int .i64 (w.row g).m, .int .i64 g, .bool true] else [.int .i64 0, .int .i64 0, .int .i64 0, .bool false] := by
  have hg' : readI (w.w2.drop 1) = some g := hg
  unfold spyR
  simp only [hw, hg']
theorem spyR_line {s : List UInt8} {r : Row} (h : r.ok = true) (hc : r.canon) (hs : yl r = s) : spyR s = [.int .i64 r.y, .int .i64 r.m, .int .i64 r.gone, .bool true] := by
  have hb := ok_bounds h
  have hg : r.gone = r.k + r.x + r.g := rfl
  unfold Row.canon at hc
  have hp := parts_yl h
  have hl := yl_len h
  rw [hs] at hp hl
  have i1 : ∀ n : Int, 1 ≤ (Lib.itoa n).length := fun n => by
    rw [Nat.one_le_iff_ne_zero]
    intro e
    have := List.eq_nil_of_length_eq_zero e
    by_cases hn : 0 ≤ n
    · obtain ⟨u, rfl⟩ := Int.eq_ofNat_of_zero_le hn
      rw [itoa_dec] at this; exact decDigits_ne u this
    · unfold Lib.itoa at this
      rw [if_pos (by omega)] at this; cases this
  have r1 : rdN (Lib.itoa r.y) = r.y := by unfold rdN; rw [readI_itoa (by omega) (by omega)]; rfl
  have r2 : rdN (Lib.itoa r.m) = r.m := by unfold rdN; rw [readI_itoa (by omega) (by omega)]; rfl
  have r4 : rdN (Lib.itoa r.x) = r.x := by unfold rdN; rw [readI_itoa (by omega) (by omega)]; rfl
  have r3 := readI_itoa (n := r.gone) (by omega) (by omega)
  have l1 := i1 r.y
  have l2 := i1 r.m
  have l3 := i1 r.gone
  have l4 := i1 r.x
  have hw : wordsOf s = some ⟨Lib.itoa r.y ++ [58], 43 :: Lib.itoa r.m, 45 :: Lib.itoa r.gone, r.x⟩ := by
    unfold wordsOf
    rw [hp]
    unfold ylW
    by_cases hx : 0 < r.x
    · rw [if_pos hx]
      simp only
      rw [if_pos ⟨hl, by simp; omega, by simp; omega, by simp; omega⟩]
      simp only [w3d]
      rw [if_pos (by simp; omega)]
      simp only [List.drop_succ_cons, List.drop_zero, r4]
    · rw [if_neg hx]
      simp only
      rw [if_pos ⟨hl, by simp; omega, by simp; omega, by simp; omega⟩, show r.x = 0 by omega]
      rfl
  have hrow : (Wd.row ⟨Lib.itoa r.y ++ [58], 43 :: Lib.itoa r.m, 45 :: Lib.itoa r.gone, r.x⟩ r.gone) = r := by
    unfold Wd.row
    simp only [List.length_append, List.length_singleton, Nat.add_sub_cancel, List.drop_succ_cons, List.drop_zero]
    rw [List.take_left' rfl, r1, r2, show min 9999 (r.gone - r.x) = r.k by omega, show r.gone - r.x - r.k = r.g by omega]
  unfold spyR
  rw [hw]
  simp only [List.drop_succ_cons, List.drop_zero]
  rw [r3]
  simp only [hrow]
  rw [if_pos ⟨by omega, by omega, h, hs⟩]
theorem spyR_eq (s : List UInt8) : spyR s = pyR s := by
  cases hp : pyOK s with
  | true =>
    have h := hp
    unfold pyOK at h
    rw [Bool.and_eq_true, decide_eq_true_eq] at h
    rw [spyR_line h.1 (rowI_canon s) h.2]
    unfold pyR
    rw [if_pos hp]
  | false =>
    have hn : pyR s = [.int .i64 0, .int .i64 0, .int .i64 0, .bool false] := by unfold pyR; rw [if_neg (by rw [hp]; decide)]
    rw [hn]
    unfold spyR
    split
    · rename_i w hw
      split
      · rename_i gone hg
        rw [if_neg]
        rintro ⟨h1, h2, h3, h4⟩
        have hc : (w.row gone).canon := by
          unfold Row.canon Wd.row
          simp only
          omega
        have := (pyR_of h3 hc h4).2
        rw [hp] at this
        cases this
      · rfl
    · rfl
end Go.Pe.Tryd
set_option maxRecDepth 100000
set_option maxHeartbeats 4000000
set_option linter.all false
namespace Go.Pe.Tryd
open Nat (reduceEqDiff reduceAdd reduceSub reduceLT)
open Go.Proofs.Tryd
structure App where
  i : Int
  q : Int
  d : Int
  a : List Int
  h : List Int
  s : Int
def App.d' (x : App) : D := .st (.cons (.int .i64 x.i) (.cons (.int .i64 x.q) (.cons (.int .i64 x.d) (.cons (.sl false 1 (dl iD x.a)) (.cons (.sl false 1 (dl iD x.h)) (.cons (.int .i64 x.s) .nil))))))
theorem ints_noOwn (v : List Int) : (dl iD v).noOwn = true := dl_noOwn iD_noOwn v
theorem ints_unown (v : List Int) : (dl iD v).unown = dl iD v := dl_unown iD_unown v
theorem App.noOwn (x : App) : x.d'.noOwn = true := by simp [App.d', D.noOwn, ints_noOwn]
theorem App.unown (x : App) : x.d'.unown = x.d' := by simp [App.d', D.unown, ints_unown]
end Go.Pe.Tryd
set_option maxRecDepth 100000
set_option maxHeartbeats 4000000
set_option linter.all false
namespace Go.Pe.Tryd
open Nat (reduceEqDiff reduceAdd reduceSub reduceLT)
open Go.Proofs.Tryd
end Go.Pe.Tryd
set_option maxRecDepth 100000
set_option maxHeartbeats 4000000
set_option linter.all false
namespace Go.Pe.Tryd
open Nat (reduceEqDiff reduceAdd reduceSub reduceLT)
open Go.Proofs.Tryd
end Go.Pe.Tryd
set_option maxRecDepth 100000
set_option maxHeartbeats 4000000
set_option linter.all false
namespace Go.Pe.Tryd
open Nat (reduceEqDiff reduceAdd reduceSub reduceLT)
open Go.Proofs.Tryd
end Go.Pe.Tryd
set_option maxRecDepth 100000
set_option maxHeartbeats 4000000
set_option linter.all false
namespace Go.Pe.Tryd
open Nat (reduceEqDiff reduceAdd reduceSub reduceLT)
open Go.Proofs.Tryd
end Go.Pe.Tryd
set_option maxRecDepth 100000
set_option maxHeartbeats 4000000
set_option linter.all false
namespace Go.Pe.Tryd
open Nat (reduceEqDiff reduceAdd reduceSub reduceLT)
open Go.Proofs.Tryd
end Go.Pe.Tryd
set_option maxRecDepth 100000
set_option maxHeartbeats 4000000
set_option linter.all false
namespace Go.Pe.Tryd
open Nat (reduceEqDiff reduceAdd reduceSub reduceLT)
open Go.Proofs.Tryd
end Go.Pe.Tryd
set_option maxRecDepth 100000
set_option maxHeartbeats 4000000
set_option linter.all false
namespace Go.Pe.Tryd
open Nat (reduceEqDiff reduceAdd reduceSub reduceLT)
open Go.Proofs.Tryd
end Go.Pe.Tryd
set_option maxRecDepth 100000
set_option maxHeartbeats 4000000
set_option linter.all false
namespace Go.Pe.Tryd
open Nat (reduceEqDiff reduceAdd reduceSub reduceLT)
open Go.Proofs.Tryd
structure Cs where
  i : Int
  a : Int
  d : Int
  h : List Int
def Cs.p (x : Cs) (dh : D) : D := .st (.cons (.int .i64 x.i) (.cons (.int .i64 x.a) (.cons (.int .i64 x.d) (.cons dh .nil))))
def Cs.s (x : Cs) : D := x.p (.sl false 1 (dl iD x.h))
def Cs.o (x : Cs) : D := x.p (.sl true 1 (dl iD x.h))
structure Off where
  day : Int
  cs : List Cs
  kept : Int
  moved : Int
  led : List (List UInt8)
def offP (o : Off) (dc dd : D) : D := .st (.cons (.int .i64 o.day) (.cons dc (.cons (.int .i64 o.kept) (.cons (.int .i64 o.moved) (.cons dd .nil)))))
def Off.s (o : Off) : D := offP o (.sl false 4 (dl Cs.s o.cs)) (.sl false 1 (dl D.str o.led))
def Off.o (o : Off) : D := offP o (.sl true 4 (dl Cs.o o.cs)) (.sl true 1 (dl D.str o.led))
end Go.Pe.Tryd
set_option maxRecDepth 100000
set_option maxHeartbeats 4000000
set_option linter.all false
namespace Go.Pe.Tryd
open Nat (reduceEqDiff reduceAdd reduceSub reduceLT)
open Go.Proofs.Tryd
def setL (l : List UInt8) : List Bool := (List.range 256).map fun j => l.contains (UInt8.ofNat j)
def setD (l : List UInt8) : D := .st (dl D.bool (setL l))
theorem bools_rep {w : World} {M : Nat → Prop} : ∀ L : List Bool, (dl D.bool L).rep w M (L.map Value.bool) []
  | [] => ⟨rfl, rfl⟩
  | b :: L => ⟨[.bool b], _, [], [], rfl, rfl, ⟨rfl, rfl⟩, bools_rep L⟩
theorem setL_cells (l : List UInt8) : (Lib.setCells l).toList = (setL l).map Value.bool := by
  rw [Lib.setCells_eq]
  simp [setL, List.map_map, Function.comp_def]
theorem setL_at (l : List UInt8) (x : UInt8) : (setL l)[x.toNat]? = some (l.contains x) := by
  have h := x.toNat_lt
  simp only [setL, List.getElem?_map, List.getElem?_range h, Option.map_some, UInt8.ofNat_toNat]
theorem makeSet_fn (s : List UInt8) (h128 : ∀ b ∈ s, b.toNat < 128) (hl : s.length < 4000000000) : Fn prog 55 [.str s] (fun rs => rs = [setD s, .bool true]) := by
  intro M vs w hM hG hv
  obtain ⟨cs, us, f1, f2, rfl, e, ⟨rfl, _⟩, rfl, rfl⟩ := hv
  refine (Go.Proofs.Tryd.strings_makeASCIISet (fun w => by kernel_rfl) ⟨s.toArray⟩ w (by show s.toArray.size < _; simp; omega) ?_).mono ?_
  · intro j b hb
    exact h128 b (List.mem_of_getElem? (by simpa using hb))
  · rintro e w' ⟨rfl, rfl⟩
    refine ⟨[setD s, .bool true], [.agg (Lib.setCells s), .bool true], [], rfl, rfl, ⟨(Lib.setCells s).toList, [.bool true], [], [], rfl, rfl, ?_, ⟨[.bool true], [], [], [], rfl, rfl, ⟨rfl, rfl⟩, rfl, rfl⟩⟩, List.nodup_nil, (by simp), ext_alloc w _⟩
    rw [setL_cells]
    exact bools_rep _
theorem bools_pre : ∀ (L : List Bool) (n : Nat), n ≤ L.length → (dl D.bool L).pre n = n
  | _, 0, _ => by cases ‹List Bool› <;> rfl
  | [], n + 1, h => by simp at h
  | b :: L, n + 1, h => by
    have := bools_pre L n (by simpa using h)
    show 1 + (dl D.bool L).pre n = n + 1
    omega
theorem contains_fnS (l : List UInt8) (x : UInt8) : Fn prog 66 [.ptr (setD l), .int .u8 (x.toNat : Int)] (fun rs => rs = [.bool (l.contains x)]) := by
  have h256 := x.toNat_lt
  have hx := setL_at l x
  have hp := bools_pre (setL l) x.toNat (by simp [setL]; omega)
  have hp' : (dl D.bool (setL l)).pre x.toNat = x.toNat * 1 := by omega
  refine Fn_of' (fn := f66) (by exact func66) c66 r66 (n := 10) (by rfl) (rv := [.tmp 4]) (by rfl) (by simp) ?_
  unfold m66
  try simp only [wQ]
  simp only [setD]
  repeat' (first | (simp only [onC_true, Int.toNat_natCast, hp', dl_nth, hx, Option.map_some, ↓wA, ↓wC, wB, frzBE, frzBS, reduceEqDiff, reduceAdd, reduceSub, reduceIte, reduceCtorEq, Nat.reduceBEq, reduceLT]) | (with_reducible refine onC_i ?_ ?_; focus omega) | ((first | apply execG_split | apply execC_split | apply onPick_split) <;> intro h <;> try simp only [h]))
def trimL (l s : List UInt8) : List UInt8 := s.dropWhile (fun b => l.contains b)
def trimR (l s : List UInt8) : List UInt8 := (s.reverse.dropWhile (fun b => l.contains b)).reverse
theorem trimL_fn (l s : List UInt8) (hl : s.length ≤ 1000000) : Fn prog 56 [.str s, .ptr (setD l)] (fun rs => rs = [.str (trimL l s)]) := by
  refine Fn_of' (fn := f56) (by exact func56) c56 r56 (n := 16) (by rfl) (rv := [.tmp 4]) (by rfl) (by simp) ?_
  unfold m56
  try simp only [wQ]
  repeat' (first | (simp only [onC_true, ↓wA, ↓wC, wB, frzBE, frzBS, reduceEqDiff, reduceAdd, reduceSub, reduceIte, reduceCtorEq, Nat.reduceBEq, reduceLT]) | ((first | apply execG_split | apply execC_split | apply onPick_split) <;> intro h <;> try simp only [h]))
  refine exec_loop (fun t : List UInt8 => ⟨[(0, .d (.str t)), (1, .d (.ptr (setD l)))], []⟩) (fun t => trimL l t = trimL l s ∧ t.length ≤ 1000000) (fun t => t.length) s (weak_of _ rfl ⟨⟨rfl, rfl⟩, ⟨rfl, rfl⟩, trivial⟩) ⟨rfl, hl⟩ ?_
  rintro t ⟨h1, h2⟩
  cases t with
  | nil =>
    have hd : decide ((0 : Int) < ((0 : Nat) : Int)) = false := rfl
    repeat' (first | (simp only [onC_true, hd, ↓wA, ↓wC, wB, frzBE, frzBS, reduceEqDiff, reduceAdd, reduceSub, reduceIte, reduceCtorEq, Nat.reduceBEq, reduceLT]) | ((first | apply execG_split | apply execC_split | apply onPick_split) <;> intro h <;> try simp only [h]))
    all_goals (rw [← h1]; rfl)
  | cons b t =>
    have hd : decide ((0 : Int) < ((t.length + 1 : Nat) : Int)) = true := decide_eq_true (by omega)
    have hC := contains_fnS l b
    have h0 : (b :: t)[(0 : Int).toNat]? = some b := rfl
    have hdr : (b :: t).drop (1 : Int).toNat = t := rfl
    simp only [List.length_cons] at h2
    cases hb : l.contains b with
    | true =>
      rw [hb] at hC
      have e : trimL l (b :: t) = trimL l t := by unfold trimL; rw [List.dropWhile_cons, if_pos hb]
      repeat' (first | (simp only [onC_true, hd, h0, hdr, ↓wA, ↓wC, wB, frzBE, frzBS, reduceEqDiff, reduceAdd, reduceSub, reduceIte, reduceCtorEq, Nat.reduceBEq, reduceLT]) | (refine call_det (hC) rfl rfl ?_) | (refine callP_det (hC) rfl rfl ?_) | (with_reducible refine onC_i ?_ ?_; focus omega) | (with_reducible refine onC_i ?_ ?_; focus (simp; done)) | ((first | apply execG_split | apply execC_split | apply onPick_split) <;> intro h <;> try simp only [h]))
      all_goals exact ⟨t, (weak_of _ rfl ⟨⟨rfl, rfl⟩, ⟨rfl, rfl⟩, trivial⟩), ⟨by rw [← e]; exact h1, by omega⟩, by simp⟩
    | false =>
      rw [hb] at hC
      have e : trimL l (b :: t) = b :: t := by unfold trimL; rw [List.dropWhile_cons, if_neg (by rw [hb]; decide)]
      repeat' (first | (simp only [onC_true, hd, h0, ↓wA, ↓wC, wB, frzBE, frzBS, reduceEqDiff, reduceAdd, reduceSub, reduceIte, reduceCtorEq, Nat.reduceBEq, reduceLT]) | (refine call_det (hC) rfl rfl ?_) | (refine callP_det (hC) rfl rfl ?_) | (with_reducible refine onC_i ?_ ?_; focus omega) | ((first | apply execG_split | apply execC_split | apply onPick_split) <;> intro h <;> try simp only [h]))
      all_goals (rw [← h1, e])
theorem trimR_snoc (l s : List UInt8) (b : UInt8) : trimR l (s ++ [b]) = if l.contains b = true then trimR l s else s ++ [b] := by
  unfold trimR
  rw [List.reverse_append, List.reverse_singleton, List.singleton_append, List.dropWhile_cons]
  split
  · rfl
  · simp
theorem trimR_fn (l s : List UInt8) (hl : s.length ≤ 1000000) : Fn prog 57 [.str s, .ptr (setD l)] (fun rs => rs = [.str (trimR l s)]) := by
  refine Fn_of' (fn := f57) (by exact func57) c57 r57 (n := 22) (by rfl) (rv := [.tmp 4]) (by rfl) (by simp) ?_
  unfold m57
  try simp only [wQ]
  repeat' (first | (simp only [onC_true, ↓wA, ↓wC, wB, frzBE, frzBS, reduceEqDiff, reduceAdd, reduceSub, reduceIte, reduceCtorEq, Nat.reduceBEq, reduceLT]) | ((first | apply execG_split | apply execC_split | apply onPick_split) <;> intro h <;> try simp only [h]))
  refine exec_loop (fun t : List UInt8 => ⟨[(0, .d (.str t)), (1, .d (.ptr (setD l)))], []⟩) (fun t => trimR l t = trimR l s ∧ t.length ≤ 1000000) (fun t => t.length) s (weak_of _ rfl ⟨⟨rfl, rfl⟩, ⟨rfl, rfl⟩, trivial⟩) ⟨rfl, hl⟩ ?_
  rintro t ⟨h1, h2⟩
  rcases List.eq_nil_or_concat t with rfl | ⟨u, b, rfl⟩
  · have hd : decide ((0 : Int) < ((0 : Nat) : Int)) = false := rfl
    repeat' (first | (simp only [onC_true, hd, ↓wA, ↓wC, wB, frzBE, frzBS, reduceEqDiff, reduceAdd, reduceSub, reduceIte, reduceCtorEq, Nat.reduceBEq, reduceLT]) | ((first | apply execG_split | apply execC_split | apply onPick_split) <;> intro h <;> try simp only [h]))
    all_goals (rw [← h1]; rfl)
  · rw [List.concat_eq_append] at *
    have hlen : (u ++ [b]).length = u.length + 1 := by simp
    rw [hlen] at h2
    have hd : decide ((0 : Int) < ((u.length + 1 : Nat) : Int)) = true := decide_eq_true (by omega)
    have hC := contains_fnS l b
    have hn : (((u.length + 1 : Nat) : Int) - 1).toNat = u.length := by omega
    have h0 : (u ++ [b])[u.length]? = some b := by simp
    have htk : (u ++ [b]).take u.length = u := by simp
    have e := trimR_snoc l u b
    cases hb : l.contains b with
    | true =>
      rw [hb] at hC
      rw [if_pos hb] at e
      repeat' (first | (simp only [onC_true, hlen, hd, hn, h0, htk, ↓wA, ↓wC, wB, frzBE, frzBS, reduceEqDiff, reduceAdd, reduceSub, reduceIte, reduceCtorEq, Nat.reduceBEq, reduceLT]) | (refine call_det (hC) rfl rfl ?_) | (refine callP_det (hC) rfl rfl ?_) | (with_reducible refine onI_bare ?_ ?_; focus (simp only [InR]; omega)) | (with_reducible refine onC_i ?_ ?_; focus omega) | ((first | apply execG_split | apply execC_split | apply onPick_split) <;> intro h <;> try simp only [h]))
      all_goals exact ⟨u, (weak_of _ rfl ⟨⟨rfl, rfl⟩, ⟨rfl, rfl⟩, trivial⟩), ⟨by rw [← e]; exact h1, by omega⟩, by simp⟩
    | false =>
      rw [hb] at hC
      rw [if_neg (by rw [hb]; decide)] at e
      repeat' (first | (simp only [onC_true, hlen, hd, hn, h0, ↓wA, ↓wC, wB, frzBE, frzBS, reduceEqDiff, reduceAdd, reduceSub, reduceIte, reduceCtorEq, Nat.reduceBEq, reduceLT]) | (refine call_det (hC) rfl rfl ?_) | (refine callP_det (hC) rfl rfl ?_) | (with_reducible refine onI_bare ?_ ?_; focus (simp only [InR]; omega)) | (with_reducible refine onC_i ?_ ?_; focus omega) | ((first | apply execG_split | apply execC_split | apply onPick_split) <;> intro h <;> try simp only [h]))
      all_goals (rw [← h1, e])
theorem dropWhile_nil {p : UInt8 → Bool} : ∀ (s : List UInt8), s.dropWhile p = [] ↔ s.all p = true
  | [] => by simp
  | b :: s => by
    rw [List.dropWhile_cons]
    cases hb : p b with
    | true => simp [hb, dropWhile_nil s]
    | false => simp [hb]
theorem trim_nilN (l : List UInt8) : ∀ (n : Nat) (s : List UInt8), s.length = n → (trimL l (trimR l s) = [] ↔ s.all (fun b => l.contains b) = true) := by
  intro n
  induction n with
  | zero =>
    intro s hs
    obtain rfl := List.eq_nil_of_length_eq_zero hs
    simp [trimL, trimR]
  | succ n IH =>
  intro s hs
  unfold trimL
  rw [dropWhile_nil]
  rcases List.eq_nil_or_concat s with rfl | ⟨u, b, rfl⟩
  · simp [trimR]
  · rw [List.concat_eq_append, trimR_snoc]
    split
    · rename_i hb
      have ih := IH u (by simpa using hs)
      unfold trimL at ih
      rw [dropWhile_nil] at ih
      rw [ih, List.all_append]
      simp only [List.all_cons, List.all_nil, hb, Bool.and_true]
    · rfl
theorem trim_nil (l s : List UInt8) : trimL l (trimR l s) = [] ↔ s.all (fun b => l.contains b) = true := trim_nilN l _ s rfl
def zSet : D := .st (ofL (List.replicate 256 (D.bool false)))
theorem setD_noOwn (l : List UInt8) : (setD l).noOwn = true := dl_noOwn (f := D.bool) (fun _ => rfl) (setL l)
theorem setD_unown (l : List UInt8) : (setD l).unown = setD l := by
  show D.st (dl D.bool (setL l)).unown = _
  rw [dl_unown (fun _ => rfl)]; rfl
theorem bools_size : ∀ L : List Bool, (dl D.bool L).size = L.length
  | [] => rfl
  | b :: L => by
    have := bools_size L
    show 1 + (dl D.bool L).size = L.length + 1
    omega
theorem setD_size (l : List UInt8) : (setD l).size = 256 := by
  show (dl D.bool (setL l)).size = 256
  rw [bools_size]; simp [setL]
end Go.Pe.Tryd
set_option maxRecDepth 100000
set_option maxHeartbeats 4000000
set_option linter.all false
namespace Go.Pe.Tryd
open Nat (reduceEqDiff reduceAdd reduceSub reduceLT)
open Go.Proofs.Tryd
end Go.Pe.Tryd
set_option maxRecDepth 100000
set_option maxHeartbeats 4000000
set_option linter.all false
namespace Go.Pe.Tryd
open Nat (reduceEqDiff reduceAdd reduceSub reduceLT)
open Go.Proofs.Tryd Go.Sort
end Go.Pe.Tryd
set_option maxRecDepth 100000
set_option maxHeartbeats 4000000
set_option linter.all false
namespace Go.Pe.Tryd
open Nat (reduceEqDiff reduceAdd reduceSub reduceLT)
open Go.Proofs.Tryd Go.Sort
theorem dl_str (L : List (List UInt8)) (s : List UInt8) : (dl D.str L).app (D.cons (.str s) .nil) = dl D.str (L ++ [s]) := app_one (f := D.str) L s
theorem l1Split_fn (s : List UInt8) (x : UInt8) (hl : s.length ≤ 1000000000) : Fn prog 37 [.str s, .int .u8 (x.toNat : Int)] (fun rs => rs = [.sl true 1 (dl D.str (parts x s))]) := by
  refine Fn_of' (fn := f37) (by exact func37) c37 r37 (n := 35) (by rfl) (rv := [.tmp 4]) (by rfl) (by simp) ?_
  unfold m37
  try simp only [wQ]
  repeat' (first | (simp only [onC_true, ↓wA, ↓wC, wB, frzBE, frzBS, reduceEqDiff, reduceAdd, reduceSub, reduceIte, reduceCtorEq, Nat.reduceBEq, reduceLT]) | ((first | apply execG_split | apply execC_split | apply onPick_split) <;> intro h <;> try simp only [h]))
  refine exec_range s.length (fun i : Nat => ⟨[(0, .d (.str s)), (1, .d (.int .u8 (x.toNat : Int))), (5, .own 0), (6, .d (.int .i64 (spl x s i).2)), (7, .d (.int .i64 i))], [.val (.sl true 1 (dl D.str (spl x s i).1))]⟩) (fun _ => True) (weak_of _ rfl ⟨⟨rfl, rfl⟩, ⟨rfl, rfl⟩, ⟨rfl, rfl⟩, ⟨rfl, rfl⟩, ⟨rfl, rfl⟩, trivial⟩) trivial ?_ ?_
  · intro i hi _ hd h0
    obtain ⟨b, hb⟩ := get_lt hi
    have hbc : decide ((b.toNat : Int) = (x.toNat : Int)) = decide (b = x) := by
      apply decide_eq_decide.2
      constructor
      · intro h; exact UInt8.toNat_inj.1 (by omega)
      · intro h; rw [h]
    have hbd := spl_bd x s i
    have hup := spl_up (x := x) hb
    by_cases hc : b = x
    · rw [if_pos hc] at hup
      repeat' (first | (simp only [hd, h0, hb, Int.toNat_natCast, onC_true, hbc, hc, ↓wA, ↓wC, wB, frzBE, frzBS, reduceEqDiff, reduceAdd, reduceSub, reduceIte, reduceCtorEq, Nat.reduceBEq, reduceLT]) | (refine onC_i (fun h => by cases h) ?_) | (with_reducible refine onC_i ?_ ?_; focus ((try simp only [dl_len]); omega)) | (refine onI_bare (by simp only [InR]; omega) ?_) | ((first | apply execG_split | apply execC_split | apply onPick_split) <;> intro h <;> try simp only [h]))
      all_goals (refine ⟨i + 1, ?_, by omega, by omega⟩; rw [hup]; (try simp only [dl_str]); exact (weak_of _ rfl ⟨⟨rfl, rfl⟩, ⟨rfl, rfl⟩, ⟨rfl, rfl⟩, ⟨rfl, rfl⟩, ⟨rfl, rfl⟩, trivial⟩))
    · rw [if_neg hc] at hup
      repeat' (first | (simp only [hd, h0, hb, Int.toNat_natCast, onC_true, hbc, hc, ↓wA, ↓wC, wB, frzBE, frzBS, reduceEqDiff, reduceAdd, reduceSub, reduceIte, reduceCtorEq, Nat.reduceBEq, reduceLT]) | (refine onC_i (fun h => by cases h) ?_) | (with_reducible refine onC_i ?_ ?_; focus ((try simp only [dl_len]); omega)) | (refine onI_bare (by simp only [InR]; omega) ?_) | ((first | apply execG_split | apply execC_split | apply onPick_split) <;> intro h <;> try simp only [h]))
      all_goals (refine ⟨i + 1, ?_, by omega, by omega⟩; rw [hup]; (try simp only [dl_str]); exact (weak_of _ rfl ⟨⟨rfl, rfl⟩, ⟨rfl, rfl⟩, ⟨rfl, rfl⟩, ⟨rfl, rfl⟩, ⟨rfl, rfl⟩, trivial⟩))
  · intro _ hd
    have hbd := spl_bd x s s.length
    repeat' (first | (simp only [hd, onC_true, Int.toNat_natCast, ↓wA, ↓wC, wB, frzBE, frzBS, reduceEqDiff, reduceAdd, reduceSub, reduceIte, reduceCtorEq, Nat.reduceBEq, reduceLT]) | (refine onC_i (fun h => by cases h) ?_) | (with_reducible refine onC_i ?_ ?_; focus ((try simp only [dl_len]); omega)) | ((first | apply execG_split | apply execC_split | apply onPick_split) <;> intro h <;> try simp only [h]))
    all_goals (simp only [dl_str]; rfl)
end Go.Pe.Tryd
set_option maxRecDepth 100000
set_option maxHeartbeats 4000000
set_option linter.all false
namespace Go.Pe.Tryd
open Nat (reduceEqDiff reduceAdd reduceSub reduceLT)
open Go.Proofs.Tryd Go.Sort
theorem cutN_fn (s sep : List UInt8) (hl : s.length ≤ 4000000000) : Fn prog 29 [.str s, .str sep] (fun rs => rs = [.str (Lib.cut s sep).1, .str (Lib.cut s sep).2.1, .bool (Lib.cut s sep).2.2]) :=
  Fn_lib rfl rfl fun w hF => by
    obtain ⟨m, hm⟩ := maxOf hF
    refine (Go.Proofs.Tryd.strings_Cut ⟨s.toArray⟩ ⟨sep.toArray⟩ m w (by show s.toArray.size < _; simp; omega) hm).mono ?_
    rintro e w' ⟨rfl, n, rfl⟩
    exact ⟨rfl, Ext.drewN n⟩
def sufB (s suf : List UInt8) : Bool := decide (suf.length ≤ s.length) && decide (s.drop (s.length - suf.length) = suf)
theorem hasSuffix_fn (s suf : List UInt8) (hl : s.length ≤ 4000000000) : Fn prog 52 [.str s, .str suf] (fun rs => rs = [.bool (sufB s suf)]) := by
  unfold sufB
  by_cases h : suf.length ≤ s.length
  · have hd : decide ((suf.length : Int) ≤ (s.length : Int)) = true := decide_eq_true (by omega)
    have hn : ((s.length : Int) - (suf.length : Int)).toNat = s.length - suf.length := by omega
    rw [decide_eq_true h]
    refine Fn_of' (fn := f52) (by exact func52) c52 r52 (n := 21) (by rfl) (rv := [.tmp 4]) (by rfl) (by simp) ?_
    unfold m52
    try simp only [wQ]
    repeat' (first | (simp only [hd, hn, ↓wA, ↓wC, wB, frzBE, frzBS, reduceEqDiff, reduceAdd, reduceSub, reduceIte, reduceCtorEq, Nat.reduceBEq, reduceLT]) | (with_reducible refine onI_bare ?_ ?_; focus (simp only [InR]; omega)) | (with_reducible refine onC_i ?_ ?_; focus omega) | ((first | apply execG_split | apply execC_split | apply onPick_split) <;> intro h <;> try simp only [h]))
  · have hd : decide ((suf.length : Int) ≤ (s.length : Int)) = false := decide_eq_false (by omega)
    rw [decide_eq_false h]
    refine Fn_of' (fn := f52) (by exact func52) c52 r52 (n := 21) (by rfl) (rv := [.tmp 4]) (by rfl) (by simp) ?_
    unfold m52
    try simp only [wQ]
    repeat' (first | (simp only [hd, ↓wA, ↓wC, wB, frzBE, frzBS, reduceEqDiff, reduceAdd, reduceSub, reduceIte, reduceCtorEq, Nat.reduceBEq, reduceLT]) | ((first | apply execG_split | apply execC_split | apply onPick_split) <;> intro h <;> try simp only [h]))
theorem cutSufL_fn (s suf : List UInt8) (hl : s.length ≤ 4000000000) : Fn prog 47 [.str s, .str suf] (fun rs => rs = [.str (cutSuf s suf), .bool (sufB s suf)]) := by
  have hS := hasSuffix_fn s suf hl
  unfold cutSuf
  cases hb : sufB s suf with
  | true =>
    rw [hb] at hS
    have h := hb
    simp only [sufB, Bool.and_eq_true, decide_eq_true_eq] at h
    have hn : ((s.length : Int) - (suf.length : Int)).toNat = s.length - suf.length := by omega
    rw [if_pos h]
    have h1 := h.1
    refine Fn_of' (fn := f47) (by exact func47) c47 r47 (n := 18) (by rfl) (rv := [.tmp 4, .tmp 5]) (by rfl) (by simp) ?_
    unfold m47
    try simp only [wQ]
    repeat' (first | (simp only [hn, ↓wA, ↓wC, wB, frzBE, frzBS, reduceEqDiff, reduceAdd, reduceSub, reduceIte, reduceCtorEq, Nat.reduceBEq, reduceLT]) | (refine call_det (hS) rfl rfl ?_) | (refine callP_det (hS) rfl rfl ?_) | (with_reducible refine onI_bare ?_ ?_; focus (simp only [InR]; omega)) | (with_reducible refine onC_i ?_ ?_; focus omega) | ((first | apply execG_split | apply execC_split | apply onPick_split) <;> intro h <;> try simp only [h]))
  | false =>
    rw [hb] at hS
    rw [if_neg (by
      intro h
      have : sufB s suf = true := by simp only [sufB, Bool.and_eq_true, decide_eq_true_eq]; exact h
      rw [hb] at this; cases this)]
    refine Fn_of' (fn := f47) (by exact func47) c47 r47 (n := 18) (by rfl) (rv := [.tmp 4, .tmp 5]) (by rfl) (by simp) ?_
    unfold m47
    try simp only [wQ]
    repeat' (first | (simp only [↓wA, ↓wC, wB, frzBE, frzBS, reduceEqDiff, reduceAdd, reduceSub, reduceIte, reduceCtorEq, Nat.reduceBEq, reduceLT]) | (refine call_det (hS) rfl rfl ?_) | (refine callP_det (hS) rfl rfl ?_) | ((first | apply execG_split | apply execC_split | apply onPick_split) <;> intro h <;> try simp only [h]))
theorem cutSuf_fn (s suf : List UInt8) (hl : s.length ≤ 4000000000) : Fn prog 30 [.str s, .str suf] (fun rs => rs = [.str (cutSuf s suf), .bool (sufB s suf)]) := by
  have hS := cutSufL_fn s suf hl
  refine Fn_of' (fn := f30) (by exact func30) c30 r30 (n := 11) (by rfl) (rv := [.tmp 4, .tmp 5]) (by rfl) (by simp) ?_
  unfold m30
  try simp only [wQ]
  repeat' (first | (simp only [↓wA, ↓wC, wB, frzBE, frzBS, reduceEqDiff, reduceAdd, reduceSub, reduceIte, reduceCtorEq, Nat.reduceBEq, reduceLT]) | (refine call_det (hS) rfl rfl ?_) | (refine callP_det (hS) rfl rfl ?_) | ((first | apply execG_split | apply execC_split | apply onPick_split) <;> intro h <;> try simp only [h]))
theorem trimG_fn (l s : List UInt8) (ha : ∀ b ∈ l, b.toNat < 128) (hl1 : 1 < l.length) (hl2 : l.length < 1000) (h0 : 0 < s.length) (hl : s.length ≤ 1000) : Fn prog 48 [.str s, .str l] (fun rs => rs = [.str (trimL l (trimR l s))]) := by
  have hM := makeSet_fn l ha (by omega)
  have hR := trimR_fn l s (by omega)
  have hrl : (trimR l s).length ≤ s.length := by
    unfold trimR
    have := (List.dropWhile_sublist (p := fun b => l.contains b) (l := s.reverse)).length_le
    simpa using this
  have hL := trimL_fn l (trimR l s) (by omega)
  have d1 : decide (s = []) = false := decide_eq_false (fun h => by rw [h] at h0; simp at h0)
  have d2 : decide (l = []) = false := decide_eq_false (fun h => by rw [h] at hl1; simp at hl1)
  have d3 : decide ((l.length : Int) = 1) = false := decide_eq_false (by omega)
  have n1 : (setD l).noOwn = true := setD_noOwn _
  have n2 : (setD l).isV = true := rfl
  have n3 := setD_size l
  have n4 : (setD l).unown = setD l := setD_unown _
  have hz : D.st (ofL (List.replicate 256 (D.bool false))) = zSet := rfl
  have n5 : zSet.size = 256 := rfl
  refine Fn_ofg (ps := [[1, 1, 1, 0, 1, 1, 0, 0]]) (fn := f48) (by exact func48) c48 r48 (n := 43) (by rfl) (rv := [.tmp 4]) (by rfl) (by simp) ?_
  unfold m48
  try simp only [wQ]
  simp only [ghAll, ghAt]
  rw [hz]
  generalize zSet = Z at n5
  repeat' (first | (simp only [onC_true, d1, d2, d3, n1, n2, n3, n5, ↓wA, ↓wC, wB, frzBE, frzBS, reduceEqDiff, reduceAdd, reduceSub, reduceIte, reduceCtorEq, Nat.reduceBEq, reduceLT]) | (refine call_det (hM) rfl rfl ?_) | (refine callP_det (hM) rfl rfl ?_) | ((first | apply execG_split | apply execC_split | apply onPick_split) <;> intro h <;> try simp only [h]))
  refine exec_gh1 (frzB 0 rfl) ?_
  repeat' (first | (simp only [onC_true, n4, ↓wA, ↓wC, wB, frzBE, frzBS, reduceEqDiff, reduceAdd, reduceSub, reduceIte, reduceCtorEq, Nat.reduceBEq, reduceLT]) | (refine call_det (hR) rfl rfl ?_) | (refine callP_det (hR) rfl rfl ?_) | (refine call_det (hL) rfl rfl ?_) | (refine callP_det (hL) rfl rfl ?_) | ((first | apply execG_split | apply execC_split | apply onPick_split) <;> intro h <;> try simp only [h]))
  all_goals trace_state
def digSet : List UInt8 := [48, 49, 50, 51, 52, 53, 54, 55, 56, 57]
theorem dig_set (b : UInt8) : digSet.contains b = digB b := by
  have h : ∀ n, n < 256 → digSet.contains (UInt8.ofNat n) = digB (UInt8.ofNat n) := by decide
  have := h b.toNat b.toNat_lt
  rwa [UInt8.ofNat_toNat] at this
theorem digs_take {s : List UInt8} {i : Nat} {b : UInt8} (hb : s[i]? = some b) : digs (s.take (i + 1)) = 10 * digs (s.take i) + ((b.toNat : Int) - 48) := by
  have hi := lt_of_get hb
  have : s.take (i + 1) = s.take i ++ [b] := by
    rw [List.take_succ_eq_append_getElem hi]
    rw [List.getElem?_eq_getElem hi] at hb
    injection hb with hb
    rw [hb]
  rw [this, digs_snoc]
theorem digs_takeBd {s : List UInt8} {i : Nat} (hi : i ≤ s.length) (h7 : s.length ≤ 7) (ha : ∀ j b, j < i → s[j]? = some b → digB b = true) : 0 ≤ digs (s.take i) ∧ digs (s.take i) < 10000000 := by
  have hal : (s.take i).all digB = true := List.all_eq_true.2 fun b hb => by
    obtain ⟨j, hj⟩ := List.getElem?_of_mem hb
    rw [List.getElem?_take] at hj
    split at hj
    · exact ha j b (by assumption) hj
    · cases hj
  have hb := digs_bd (s.take i).length (s.take i) rfl hal
  have : (10 : Int) ^ (s.take i).length ≤ 10 ^ 7 := by
    have h7 : (10 : Nat) ^ (s.take i).length ≤ 10 ^ 7 := Nat.pow_le_pow_right (by decide) (by rw [List.length_take]; omega)
    exact_mod_cast h7
  have e : (10 : Int) ^ 7 = 10000000 := by decide
  omega
theorem digitsOf_fn (s : List UInt8) : Fn prog 31 [.str s] (fun rs => rs = [.int .i64 (dOf s)]) := by
  by_cases h0 : s = []
  · subst h0
    refine Fn_of' (fn := f31) (by exact func31) c31 r31 (n := 32) (by rfl) (rv := [.tmp 2]) (by rfl) (by simp) ?_
    unfold m31
    try simp only [wQ]
    repeat' (first | (simp only [↓wA, ↓wC, wB, frzBE, frzBS, reduceEqDiff, reduceAdd, reduceSub, reduceIte, reduceCtorEq, Nat.reduceBEq, reduceLT]) | ((first | apply execG_split | apply execC_split | apply onPick_split) <;> intro h <;> try simp only [h]))
    all_goals rfl
  · have d0 : decide (s = []) = false := decide_eq_false h0
    have hpos := List.length_pos_iff.2 h0
    by_cases h7 : s.length ≤ 7
    · have d7 : decide ((7 : Int) < (s.length : Int)) = false := decide_eq_false (by omega)
      have hT := trimG_fn digSet s (by decide) (by decide) (by decide) hpos (by omega)
      have hTn := trim_nil digSet s
      have hall : (s.all fun b => digSet.contains b) = s.all digB := by
        congr 1
        funext b
        exact dig_set b
      rw [hall] at hTn
      simp only [digSet] at hT hTn
      cases ha : s.all digB with
      | false =>
        have dT : decide (trimL [48, 49, 50, 51, 52, 53, 54, 55, 56, 57] (trimR [48, 49, 50, 51, 52, 53, 54, 55, 56, 57] s) = []) = false := decide_eq_false fun h => by
          have := hTn.1 h; rw [ha] at this; cases this
        have e : dOf s = -1 := by unfold dOf; rw [if_neg (fun h => by rw [ha] at h; cases h.2.2)]
        rw [e]
        refine Fn_of' (fn := f31) (by exact func31) c31 r31 (n := 32) (by rfl) (rv := [.tmp 2]) (by rfl) (by simp) ?_
        unfold m31
        try simp only [wQ]
        repeat' (first | (simp only [d0, d7, dT, ↓wA, ↓wC, wB, frzBE, frzBS, reduceEqDiff, reduceAdd, reduceSub, reduceIte, reduceCtorEq, Nat.reduceBEq, reduceLT]) | (refine call_det (hT) rfl rfl ?_) | (refine callP_det (hT) rfl rfl ?_) | ((first | apply execG_split | apply execC_split | apply onPick_split) <;> intro h <;> try simp only [h]))
      | true =>
        have dT : decide (trimL [48, 49, 50, 51, 52, 53, 54, 55, 56, 57] (trimR [48, 49, 50, 51, 52, 53, 54, 55, 56, 57] s) = []) = true := decide_eq_true (hTn.2 ha)
        have hd : ∀ j b, s[j]? = some b → digB b = true := fun j b hb => List.all_eq_true.1 ha b (List.mem_of_getElem? hb)
        have e : dOf s = digs s := by unfold dOf; rw [if_pos ⟨h0, h7, ha⟩]
        rw [e]
        refine Fn_of' (fn := f31) (by exact func31) c31 r31 (n := 32) (by rfl) (rv := [.tmp 2]) (by rfl) (by simp) ?_
        unfold m31
        try simp only [wQ]
        repeat' (first | (simp only [d0, d7, dT, ↓wA, ↓wC, wB, frzBE, frzBS, reduceEqDiff, reduceAdd, reduceSub, reduceIte, reduceCtorEq, Nat.reduceBEq, reduceLT]) | (refine call_det (hT) rfl rfl ?_) | (refine callP_det (hT) rfl rfl ?_) | ((first | apply execG_split | apply execC_split | apply onPick_split) <;> intro h <;> try simp only [h]))
        refine exec_range s.length (fun i : Nat => ⟨[(0, .d (.str s)), (3, .d (.int .i64 (digs (s.take i)))), (18, .d (.int .i64 s.length)), (19, .d (.int .i64 i))], []⟩) (fun _ => True) (weak_of _ rfl ⟨⟨rfl, rfl⟩, ⟨rfl, rfl⟩, ⟨rfl, rfl⟩, ⟨rfl, rfl⟩, trivial⟩) trivial ?_ ?_
        · intro i hlt _ hd2 hi0
          obtain ⟨b, hb⟩ := get_lt hlt
          have hbb := hd i b hb
          simp only [digB, Bool.and_eq_true, decide_eq_true_eq] at hbb
          have hbd := digs_takeBd (i := i) (by omega) h7 (fun j c _ hc => hd j c hc)
          have hst := digs_take hb
          repeat' (first | (simp only [hd2, hi0, hb, Int.toNat_natCast, onC_true, ↓wA, ↓wC, wB, frzBE, frzBS, reduceEqDiff, reduceAdd, reduceSub, reduceIte, reduceCtorEq, Nat.reduceBEq, reduceLT]) | (with_reducible refine onI_bare ?_ ?_; focus (simp only [InR]; omega)) | ((first | apply execG_split | apply execC_split | apply onPick_split) <;> intro h <;> try simp only [h]))
          all_goals
            refine ⟨i + 1, weak_of _ rfl ⟨⟨rfl, rfl⟩, ⟨congrArg (fun n => SV.d (.int .i64 n)) ?_, rfl⟩, ⟨rfl, rfl⟩, ⟨rfl, rfl⟩, trivial⟩, by omega, by omega⟩
            rw [hst]; omega
        · intro _ hd2
          repeat' (first | (simp only [hd2, ↓wA, ↓wC, wB, frzBE, frzBS, reduceEqDiff, reduceAdd, reduceSub, reduceIte, reduceCtorEq, Nat.reduceBEq, reduceLT]) | ((first | apply execG_split | apply execC_split | apply onPick_split) <;> intro h <;> try simp only [h]))
          all_goals rw [List.take_length]
    · have d7 : decide ((7 : Int) < (s.length : Int)) = true := decide_eq_true (by omega)
      have e : dOf s = -1 := by unfold dOf; rw [if_neg (fun h => h7 h.2.1)]
      rw [e]
      refine Fn_of' (fn := f31) (by exact func31) c31 r31 (n := 32) (by rfl) (rv := [.tmp 2]) (by rfl) (by simp) ?_
      unfold m31
      try simp only [wQ]
      repeat' (first | (simp only [d0, d7, ↓wA, ↓wC, wB, frzBE, frzBS, reduceEqDiff, reduceAdd, reduceSub, reduceIte, reduceCtorEq, Nat.reduceBEq, reduceLT]) | ((first | apply execG_split | apply execC_split | apply onPick_split) <;> intro h <;> try simp only [h]))
theorem l1NumZ_fn (n : Int) (h : -1000000000 ≤ n) (h1 : n ≤ 1000000000) : Fn prog 41 [.int .i64 n] (fun rs => rs = [.str (Lib.itoa n)]) := by
  by_cases h0 : 0 ≤ n
  · exact l1Num_fn n h0 (by simp only [InR]; omega)
  · have hN := l1Num_fn (-n) (by omega) (by simp only [InR]; omega)
    have hd : decide (n < 0) = true := decide_eq_true (by omega)
    obtain ⟨u, hu⟩ : ∃ u : Nat, n = -(u : Int) := ⟨n.natAbs, by omega⟩
    have hi : Lib.itoa n = 45 :: Lib.itoa (-n) := by
      rw [hu, itoa_neg u (by omega), Int.neg_neg, itoa_dec]
    have hle := itoa_le (-n) (by simp only [InR]; omega)
    rw [hi]
    refine Fn_of' (fn := f41) (by exact func41) c41 r41 (n := 25) (by rfl) (rv := [.tmp 2]) (by rfl) (by simp) ?_
    unfold m41
    try simp only [wQ]
    repeat' (first | (simp only [hd, ↓wA, ↓wC, wB, frzBE, frzBS, reduceEqDiff, reduceAdd, reduceSub, reduceIte, reduceCtorEq, Nat.reduceBEq, reduceLT]) | (refine call_det (hN) rfl rfl ?_) | (refine callP_det (hN) rfl rfl ?_) | (refine callP_det hN rfl rfl ?_) | (with_reducible refine onI_bare ?_ ?_; focus (simp only [InR]; omega)) | (with_reducible refine onC_i ?_ ?_; focus ((try simp only [List.length_cons, List.length_nil]); omega)) | ((first | apply execG_split | apply execC_split | apply onPick_split) <;> intro h <;> try simp only [h]))
    all_goals rfl
def rdR (s : List UInt8) : List D := match readI s with
  | some n => [.int .i64 n, .bool true]
  | none => [.int .i64 0, .bool false]
theorem rdR_none {s : List UInt8} (h : ¬ (1 ≤ (rdU s).length ∧ (rdU s).length ≤ 6 ∧ (rdU s).all digB = true ∧ Lib.itoa (rdV s) = s)) : rdR s = [.int .i64 0, .bool false] := by
  unfold rdR readI; rw [if_neg h]
theorem rdR_some {s : List UInt8} (h : 1 ≤ (rdU s).length ∧ (rdU s).length ≤ 6 ∧ (rdU s).all digB = true ∧ Lib.itoa (rdV s) = s) : rdR s = [.int .i64 (rdV s), .bool true] := by
  unfold rdR readI; rw [if_pos h]
theorem rdS_true {s : List UInt8} (h : rdS s = true) : ∃ t, s = 45 :: t ∧ t ≠ [] := by
  unfold rdS at h
  cases s with
  | nil => simp at h
  | cons b t =>
    simp only [List.length_cons, List.head?_cons, Bool.and_eq_true, decide_eq_true_eq, beq_iff_eq, Option.some.injEq] at h
    exact ⟨t, by rw [h.2], fun e => by rw [e] at h; simp at h⟩
theorem rdS_false {s : List UInt8} (h : rdS s = false) : s.length ≤ 1 ∨ ∃ b t, s = b :: t ∧ t ≠ [] ∧ decide ((b.toNat : Int) = 45) = false := by
  cases s with
  | nil => left; simp
  | cons b t =>
    by_cases ht : t = []
    · left; rw [ht]; simp
    · right
      refine ⟨b, t, rfl, ht, decide_eq_false fun e => ?_⟩
      have hb : b = 45 := UInt8.toNat_inj.1 (by have : (45 : UInt8).toNat = 45 := rfl; omega)
      have := List.length_pos_iff.2 ht
      unfold rdS at h
      rw [hb] at h
      simp only [List.length_cons, List.head?_cons, beq_self_eq_true, Bool.and_true, decide_eq_false_iff_not] at h
      omega
theorem rd_lt (s : List UInt8) : decide (((rdU s).length : Int) < (s.length : Int)) = rdS s := by
  cases h : rdS s with
  | true =>
    obtain ⟨t, rfl, ht⟩ := rdS_true h
    unfold rdU
    rw [if_pos h]
    exact decide_eq_true (by simp only [List.drop_succ_cons, List.drop_zero, List.length_cons]; omega)
  | false =>
    unfold rdU
    rw [if_neg (by rw [h]; decide)]
    exact decide_eq_false (by omega)
theorem l1Read_fn (s : List UInt8) (hl : s.length ≤ 100000000) : Fn prog 38 [.str s] (fun rs => rs = rdR s) := by
  have hlt := rd_lt s
  have hV : rdV s = if rdS s = true then -(digs (rdU s)) else digs (rdU s) := rfl
  cases hS : rdS s with
  | true =>
    rw [hS] at hlt hV
    obtain ⟨t, rfl, ht⟩ := rdS_true hS
    have hU : t = rdU (45 :: t) := by unfold rdU; rw [if_pos hS]; rfl
    have hps := List.length_pos_iff.2 ht
    simp only [List.length_cons] at hl
    have d1 : decide ((1 : Int) < ((t.length + 1 : Nat) : Int)) = true := decide_eq_true (by omega)
    have d1' : (45 :: t : List UInt8)[(0 : Int).toNat]? = some 45 := rfl
    have d1'' : decide (((45 : UInt8).toNat : Int) = 45) = true := rfl
    have hdr : (45 :: t : List UInt8).drop (1 : Int).toNat = t := rfl
    refine Fn_ofg (ps := [[1, 1, 1, 0, 0]]) (fn := f38) (by exact func38) c38 r38 (n := 58) (by rfl) (rv := [.tmp 2, .tmp 3]) (by rfl) (by simp) ?_
    unfold m38
    try simp only [wQ]
    simp only [ghAll, ghAt]
    repeat' (first | (simp only [onC_true, d1, d1', d1'', hdr, ↓wA, ↓wC, wB, frzBE, frzBS, reduceEqDiff, reduceAdd, reduceSub, reduceIte, reduceCtorEq, Nat.reduceBEq, reduceLT]) | (with_reducible refine onC_i ?_ ?_; focus omega) | ((first | apply execG_split | apply execC_split | apply onPick_split) <;> intro h <;> try simp only [h]))
    refine exec_gh1 (s' := ⟨[(0, .d (.str (45 :: t))), (4, .d (.str (rdU (45 :: t))))], []⟩) (weak_of [] rfl ⟨⟨rfl, rfl⟩, ⟨congrArg (fun x => SV.d (.str x)) hU, rfl⟩, trivial⟩) ?_
    generalize hs : (45 :: t : List UInt8) = s at *
    clear hU
    have hW := l1In_fn ((rdU s).length : Int) 1 6
    cases hw : within ((rdU s).length : Int) 1 6 with
    | false =>
      rw [hw] at hW
      rw [rdR_none (fun h => by
        have : within ((rdU s).length : Int) 1 6 = true := by simp only [within, Bool.and_eq_true, decide_eq_true_eq]; omega
        rw [hw] at this; cases this)]
      repeat' (first | (simp only [↓wA, ↓wC, wB, frzBE, frzBS, reduceEqDiff, reduceAdd, reduceSub, reduceIte, reduceCtorEq, Nat.reduceBEq, reduceLT]) | (refine call_det (hW) rfl rfl ?_) | (refine callP_det (hW) rfl rfl ?_) | ((first | apply execG_split | apply execC_split | apply onPick_split) <;> intro h <;> try simp only [h]))
    | true =>
      rw [hw] at hW
      have hwl : 1 ≤ (rdU s).length ∧ (rdU s).length ≤ 6 := by
        simp only [within, Bool.and_eq_true, decide_eq_true_eq] at hw; omega
      repeat' (first | (simp only [↓wA, ↓wC, wB, frzBE, frzBS, reduceEqDiff, reduceAdd, reduceSub, reduceIte, reduceCtorEq, Nat.reduceBEq, reduceLT]) | (refine call_det (hW) rfl rfl ?_) | (refine callP_det (hW) rfl rfl ?_) | ((first | apply execG_split | apply execC_split | apply onPick_split) <;> intro h <;> try simp only [h]))
      refine exec_range (rdU s).length (fun i : Nat => ⟨[(0, .d (.str s)), (4, .d (.str (rdU s))), (5, .d (.int .i64 (digs ((rdU s).take i)))), (6, .d (.int .i64 i))], []⟩) (fun i => ∀ j b, j < i → (rdU s)[j]? = some b → digB b = true) (weak_of _ rfl ⟨⟨rfl, rfl⟩, ⟨rfl, rfl⟩, ⟨rfl, rfl⟩, ⟨rfl, rfl⟩, trivial⟩) (fun j r hj => by omega) ?_ ?_
      · intro i hlti hinv hd2 hi0
        obtain ⟨b, hb⟩ := get_lt hlti
        have hbd := digs_takeBd (i := i) (by omega) (by omega) (fun j c hj hc => hinv j c hj hc)
        have hst := digs_take hb
        have hno : digB b = false → rdR s = [.int .i64 0, .bool false] := fun h => rdR_none fun hh => by
          have := List.all_eq_true.1 hh.2.2.1 b (List.mem_of_getElem? hb)
          rw [h] at this; cases this
        by_cases h48 : 48 ≤ b.toNat
        · have e48 : decide ((b.toNat : Int) < 48) = false := decide_eq_false (by omega)
          by_cases h57 : b.toNat ≤ 57
          · have e57 : decide ((57 : Int) < (b.toNat : Int)) = false := decide_eq_false (by omega)
            repeat' (first | (simp only [hd2, hi0, hb, e48, e57, Int.toNat_natCast, onC_true, ↓wA, ↓wC, wB, frzBE, frzBS, reduceEqDiff, reduceAdd, reduceSub, reduceIte, reduceCtorEq, Nat.reduceBEq, reduceLT]) | (with_reducible refine onI_bare ?_ ?_; focus (simp only [InR]; omega)) | ((first | apply execG_split | apply execC_split | apply onPick_split) <;> intro h <;> try simp only [h]))
            all_goals
              refine next_range (weak_of _ rfl ⟨⟨rfl, rfl⟩, ⟨rfl, rfl⟩, ⟨congrArg (fun n => SV.d (.int .i64 n)) hst.symm, rfl⟩, ⟨rfl, rfl⟩, trivial⟩) hlti fun j c hj hc => ?_
              by_cases e : j = i
              · subst e; rw [hb] at hc; injection hc with hc; rw [← hc]; simp [digB, h48, h57]
              · exact hinv j c (by omega) hc
          · have e57 : decide ((57 : Int) < (b.toNat : Int)) = true := decide_eq_true (by omega)
            rw [hno (by simp [digB, h57])]
            repeat' (first | (simp only [hd2, hi0, hb, e48, e57, Int.toNat_natCast, onC_true, ↓wA, ↓wC, wB, frzBE, frzBS, reduceEqDiff, reduceAdd, reduceSub, reduceIte, reduceCtorEq, Nat.reduceBEq, reduceLT]) | (with_reducible refine onI_bare ?_ ?_; focus (simp only [InR]; omega)) | ((first | apply execG_split | apply execC_split | apply onPick_split) <;> intro h <;> try simp only [h]))
        · have e48 : decide ((b.toNat : Int) < 48) = true := decide_eq_true (by omega)
          rw [hno (by simp [digB, h48])]
          repeat' (first | (simp only [hd2, hi0, hb, e48, Int.toNat_natCast, onC_true, ↓wA, ↓wC, wB, frzBE, frzBS, reduceEqDiff, reduceAdd, reduceSub, reduceIte, reduceCtorEq, Nat.reduceBEq, reduceLT]) | (with_reducible refine onI_bare ?_ ?_; focus (simp only [InR]; omega)) | ((first | apply execG_split | apply execC_split | apply onPick_split) <;> intro h <;> try simp only [h]))
      · intro hinv hd2
        have hall : (rdU s).all digB = true := List.all_eq_true.2 fun b hb => by
          obtain ⟨j, hj⟩ := List.getElem?_of_mem hb
          exact hinv j b (lt_of_get hj) hj
        have hbd := digs_takeBd (s := rdU s) (i := (rdU s).length) (Nat.le_refl _) (by omega) (fun j c hj hc => hinv j c hj hc)
        rw [List.take_length] at hbd
        have hvb := rdV_bd hwl.2 hall
        have hN := l1NumZ_fn (rdV s) (by omega) (by omega)
        simp only [if_true, Bool.false_eq_true, if_false] at hV
        rw [List.take_length]
        by_cases he : Lib.itoa (rdV s) = s
        · have de : decide (Lib.itoa (rdV s) = s) = true := decide_eq_true he
          rw [rdR_some ⟨hwl.1, hwl.2, hall, he⟩]
          rw [hV] at hN de ⊢
          repeat' (first | (simp only [hd2, hlt, de, ↓wA, ↓wC, wB, frzBE, frzBS, reduceEqDiff, reduceAdd, reduceSub, reduceIte, reduceCtorEq, Nat.reduceBEq, reduceLT]) | (refine call_det (hN) rfl rfl ?_) | (refine callP_det (hN) rfl rfl ?_) | (with_reducible refine onI_bare ?_ ?_; focus (simp only [InR]; omega)) | ((first | apply execG_split | apply execC_split | apply onPick_split) <;> intro h <;> try simp only [h]))
        · have de : decide (Lib.itoa (rdV s) = s) = false := decide_eq_false he
          rw [rdR_none fun h => he h.2.2.2]
          rw [hV] at hN de
          repeat' (first | (simp only [hd2, hlt, de, ↓wA, ↓wC, wB, frzBE, frzBS, reduceEqDiff, reduceAdd, reduceSub, reduceIte, reduceCtorEq, Nat.reduceBEq, reduceLT]) | (refine call_det (hN) rfl rfl ?_) | (refine callP_det (hN) rfl rfl ?_) | (with_reducible refine onI_bare ?_ ?_; focus (simp only [InR]; omega)) | ((first | apply execG_split | apply execC_split | apply onPick_split) <;> intro h <;> try simp only [h]))
  | false =>
    rw [hS] at hlt hV
    have hU : s = rdU s := by unfold rdU; rw [if_neg (by rw [hS]; decide)]
    rcases rdS_false hS with h1 | ⟨b, t, hbt, ht, hb⟩
    · have d1 : decide ((1 : Int) < (s.length : Int)) = false := decide_eq_false (by omega)
      refine Fn_ofg (ps := [[1, 1, 1, 0, 0]]) (fn := f38) (by exact func38) c38 r38 (n := 58) (by rfl) (rv := [.tmp 2, .tmp 3]) (by rfl) (by simp) ?_
      unfold m38
      try simp only [wQ]
      simp only [ghAll, ghAt]
      repeat' (first | (simp only [onC_true, d1, ↓wA, ↓wC, wB, frzBE, frzBS, reduceEqDiff, reduceAdd, reduceSub, reduceIte, reduceCtorEq, Nat.reduceBEq, reduceLT]) | (with_reducible refine onC_i ?_ ?_; focus omega) | ((first | apply execG_split | apply execC_split | apply onPick_split) <;> intro h <;> try simp only [h]))
      refine exec_gh1 (s' := ⟨[(0, .d (.str s)), (4, .d (.str (rdU s)))], []⟩) (weak_of [] rfl ⟨⟨rfl, rfl⟩, ⟨congrArg (fun x => SV.d (.str x)) hU, rfl⟩, trivial⟩) ?_
      clear hU
      have hW := l1In_fn ((rdU s).length : Int) 1 6
      cases hw : within ((rdU s).length : Int) 1 6 with
      | false =>
        rw [hw] at hW
        rw [rdR_none (fun h => by
          have : within ((rdU s).length : Int) 1 6 = true := by simp only [within, Bool.and_eq_true, decide_eq_true_eq]; omega
          rw [hw] at this; cases this)]
        repeat' (first | (simp only [↓wA, ↓wC, wB, frzBE, frzBS, reduceEqDiff, reduceAdd, reduceSub, reduceIte, reduceCtorEq, Nat.reduceBEq, reduceLT]) | (refine call_det (hW) rfl rfl ?_) | (refine callP_det (hW) rfl rfl ?_) | ((first | apply execG_split | apply execC_split | apply onPick_split) <;> intro h <;> try simp only [h]))
      | true =>
        rw [hw] at hW
        have hwl : 1 ≤ (rdU s).length ∧ (rdU s).length ≤ 6 := by
          simp only [within, Bool.and_eq_true, decide_eq_true_eq] at hw; omega
        repeat' (first | (simp only [↓wA, ↓wC, wB, frzBE, frzBS, reduceEqDiff, reduceAdd, reduceSub, reduceIte, reduceCtorEq, Nat.reduceBEq, reduceLT]) | (refine call_det (hW) rfl rfl ?_) | (refine callP_det (hW) rfl rfl ?_) | ((first | apply execG_split | apply execC_split | apply onPick_split) <;> intro h <;> try simp only [h]))
        refine exec_range (rdU s).length (fun i : Nat => ⟨[(0, .d (.str s)), (4, .d (.str (rdU s))), (5, .d (.int .i64 (digs ((rdU s).take i)))), (6, .d (.int .i64 i))], []⟩) (fun i => ∀ j b, j < i → (rdU s)[j]? = some b → digB b = true) (weak_of _ rfl ⟨⟨rfl, rfl⟩, ⟨rfl, rfl⟩, ⟨rfl, rfl⟩, ⟨rfl, rfl⟩, trivial⟩) (fun j r hj => by omega) ?_ ?_
        · intro i hlti hinv hd2 hi0
          obtain ⟨b, hb⟩ := get_lt hlti
          have hbd := digs_takeBd (i := i) (by omega) (by omega) (fun j c hj hc => hinv j c hj hc)
          have hst := digs_take hb
          have hno : digB b = false → rdR s = [.int .i64 0, .bool false] := fun h => rdR_none fun hh => by
            have := List.all_eq_true.1 hh.2.2.1 b (List.mem_of_getElem? hb)
            rw [h] at this; cases this
          by_cases h48 : 48 ≤ b.toNat
          · have e48 : decide ((b.toNat : Int) < 48) = false := decide_eq_false (by omega)
            by_cases h57 : b.toNat ≤ 57
            · have e57 : decide ((57 : Int) < (b.toNat : Int)) = false := decide_eq_false (by omega)
              repeat' (first | (simp only [hd2, hi0, hb, e48, e57, Int.toNat_natCast, onC_true, ↓wA, ↓wC, wB, frzBE, frzBS, reduceEqDiff, reduceAdd, reduceSub, reduceIte, reduceCtorEq, Nat.reduceBEq, reduceLT]) | (with_reducible refine onI_bare ?_ ?_; focus (simp only [InR]; omega)) | ((first | apply execG_split | apply execC_split | apply onPick_split) <;> intro h <;> try simp only [h]))
              all_goals
                refine next_range (weak_of _ rfl ⟨⟨rfl, rfl⟩, ⟨rfl, rfl⟩, ⟨congrArg (fun n => SV.d (.int .i64 n)) hst.symm, rfl⟩, ⟨rfl, rfl⟩, trivial⟩) hlti fun j c hj hc => ?_
                by_cases e : j = i
                · subst e; rw [hb] at hc; injection hc with hc; rw [← hc]; simp [digB, h48, h57]
                · exact hinv j c (by omega) hc
            · have e57 : decide ((57 : Int) < (b.toNat : Int)) = true := decide_eq_true (by omega)
              rw [hno (by simp [digB, h57])]
              repeat' (first | (simp only [hd2, hi0, hb, e48, e57, Int.toNat_natCast, onC_true, ↓wA, ↓wC, wB, frzBE, frzBS, reduceEqDiff, reduceAdd, reduceSub, reduceIte, reduceCtorEq, Nat.reduceBEq, reduceLT]) | (with_reducible refine onI_bare ?_ ?_; focus (simp only [InR]; omega)) | ((first | apply execG_split | apply execC_split | apply onPick_split) <;> intro h <;> try simp only [h]))
          · have e48 : decide ((b.toNat : Int) < 48) = true := decide_eq_true (by omega)
            rw [hno (by simp [digB, h48])]
            repeat' (first | (simp only [hd2, hi0, hb, e48, Int.toNat_natCast, onC_true, ↓wA, ↓wC, wB, frzBE, frzBS, reduceEqDiff, reduceAdd, reduceSub, reduceIte, reduceCtorEq, Nat.reduceBEq, reduceLT]) | (with_reducible refine onI_bare ?_ ?_; focus (simp only [InR]; omega)) | ((first | apply execG_split | apply execC_split | apply onPick_split) <;> intro h <;> try simp only [h]))
        · intro hinv hd2
          have hall : (rdU s).all digB = true := List.all_eq_true.2 fun b hb => by
            obtain ⟨j, hj⟩ := List.getElem?_of_mem hb
            exact hinv j b (lt_of_get hj) hj
          have hbd := digs_takeBd (s := rdU s) (i := (rdU s).length) (Nat.le_refl _) (by omega) (fun j c hj hc => hinv j c hj hc)
          rw [List.take_length] at hbd
          have hvb := rdV_bd hwl.2 hall
          have hN := l1NumZ_fn (rdV s) (by omega) (by omega)
          simp only [if_true, Bool.false_eq_true, if_false] at hV
          rw [List.take_length]
          by_cases he : Lib.itoa (rdV s) = s
          · have de : decide (Lib.itoa (rdV s) = s) = true := decide_eq_true he
            rw [rdR_some ⟨hwl.1, hwl.2, hall, he⟩]
            rw [hV] at hN de ⊢
            repeat' (first | (simp only [hd2, hlt, de, ↓wA, ↓wC, wB, frzBE, frzBS, reduceEqDiff, reduceAdd, reduceSub, reduceIte, reduceCtorEq, Nat.reduceBEq, reduceLT]) | (refine call_det (hN) rfl rfl ?_) | (refine callP_det (hN) rfl rfl ?_) | (with_reducible refine onI_bare ?_ ?_; focus (simp only [InR]; omega)) | ((first | apply execG_split | apply execC_split | apply onPick_split) <;> intro h <;> try simp only [h]))
          · have de : decide (Lib.itoa (rdV s) = s) = false := decide_eq_false he
            rw [rdR_none fun h => he h.2.2.2]
            rw [hV] at hN de
            repeat' (first | (simp only [hd2, hlt, de, ↓wA, ↓wC, wB, frzBE, frzBS, reduceEqDiff, reduceAdd, reduceSub, reduceIte, reduceCtorEq, Nat.reduceBEq, reduceLT]) | (refine call_det (hN) rfl rfl ?_) | (refine callP_det (hN) rfl rfl ?_) | (with_reducible refine onI_bare ?_ ?_; focus (simp only [InR]; omega)) | ((first | apply execG_split | apply execC_split | apply onPick_split) <;> intro h <;> try simp only [h]))
    · have hps := List.length_pos_iff.2 ht
      have d1 : decide ((1 : Int) < (s.length : Int)) = true := decide_eq_true (by rw [hbt, List.length_cons]; omega)
      have d1' : s[(0 : Int).toNat]? = some b := by rw [hbt]; rfl
      refine Fn_ofg (ps := [[1, 1, 1, 0, 0]]) (fn := f38) (by exact func38) c38 r38 (n := 58) (by rfl) (rv := [.tmp 2, .tmp 3]) (by rfl) (by simp) ?_
      unfold m38
      try simp only [wQ]
      simp only [ghAll, ghAt]
      repeat' (first | (simp only [onC_true, d1, d1', hb, ↓wA, ↓wC, wB, frzBE, frzBS, reduceEqDiff, reduceAdd, reduceSub, reduceIte, reduceCtorEq, Nat.reduceBEq, reduceLT]) | (with_reducible refine onC_i ?_ ?_; focus omega) | ((first | apply execG_split | apply execC_split | apply onPick_split) <;> intro h <;> try simp only [h]))
      refine exec_gh1 (s' := ⟨[(0, .d (.str s)), (4, .d (.str (rdU s)))], []⟩) (weak_of [] rfl ⟨⟨rfl, rfl⟩, ⟨congrArg (fun x => SV.d (.str x)) hU, rfl⟩, trivial⟩) ?_
      clear hU
      have hW := l1In_fn ((rdU s).length : Int) 1 6
      cases hw : within ((rdU s).length : Int) 1 6 with
      | false =>
        rw [hw] at hW
        rw [rdR_none (fun h => by
          have : within ((rdU s).length : Int) 1 6 = true := by simp only [within, Bool.and_eq_true, decide_eq_true_eq]; omega
          rw [hw] at this; cases this)]
        repeat' (first | (simp only [↓wA, ↓wC, wB, frzBE, frzBS, reduceEqDiff, reduceAdd, reduceSub, reduceIte, reduceCtorEq, Nat.reduceBEq, reduceLT]) | (refine call_det (hW) rfl rfl ?_) | (refine callP_det (hW) rfl rfl ?_) | ((first | apply execG_split | apply execC_split | apply onPick_split) <;> intro h <;> try simp only [h]))
      | true =>
        rw [hw] at hW
        have hwl : 1 ≤ (rdU s).length ∧ (rdU s).length ≤ 6 := by
          simp only [within, Bool.and_eq_true, decide_eq_true_eq] at hw; omega
        repeat' (first | (simp only [↓wA, ↓wC, wB, frzBE, frzBS, reduceEqDiff, reduceAdd, reduceSub, reduceIte, reduceCtorEq, Nat.reduceBEq, reduceLT]) | (refine call_det (hW) rfl rfl ?_) | (refine callP_det (hW) rfl rfl ?_) | ((first | apply execG_split | apply execC_split | apply onPick_split) <;> intro h <;> try simp only [h]))
        refine exec_range (rdU s).length (fun i : Nat => ⟨[(0, .d (.str s)), (4, .d (.str (rdU s))), (5, .d (.int .i64 (digs ((rdU s).take i)))), (6, .d (.int .i64 i))], []⟩) (fun i => ∀ j b, j < i → (rdU s)[j]? = some b → digB b = true) (weak_of _ rfl ⟨⟨rfl, rfl⟩, ⟨rfl, rfl⟩, ⟨rfl, rfl⟩, ⟨rfl, rfl⟩, trivial⟩) (fun j r hj => by omega) ?_ ?_
        · intro i hlti hinv hd2 hi0
          obtain ⟨b, hb⟩ := get_lt hlti
          have hbd := digs_takeBd (i := i) (by omega) (by omega) (fun j c hj hc => hinv j c hj hc)
          have hst := digs_take hb
          have hno : digB b = false → rdR s = [.int .i64 0, .bool false] := fun h => rdR_none fun hh => by
            have := List.all_eq_true.1 hh.2.2.1 b (List.mem_of_getElem? hb)
            rw [h] at this; cases this
          by_cases h48 : 48 ≤ b.toNat
          · have e48 : decide ((b.toNat : Int) < 48) = false := decide_eq_false (by omega)
            by_cases h57 : b.toNat ≤ 57
            · have e57 : decide ((57 : Int) < (b.toNat : Int)) = false := decide_eq_false (by omega)
              repeat' (first | (simp only [hd2, hi0, hb, e48, e57, Int.toNat_natCast, onC_true, ↓wA, ↓wC, wB, frzBE, frzBS, reduceEqDiff, reduceAdd, reduceSub, reduceIte, reduceCtorEq, Nat.reduceBEq, reduceLT]) | (with_reducible refine onI_bare ?_ ?_; focus (simp only [InR]; omega)) | ((first | apply execG_split | apply execC_split | apply onPick_split) <;> intro h <;> try simp only [h]))
              all_goals
                refine next_range (weak_of _ rfl ⟨⟨rfl, rfl⟩, ⟨rfl, rfl⟩, ⟨congrArg (fun n => SV.d (.int .i64 n)) hst.symm, rfl⟩, ⟨rfl, rfl⟩, trivial⟩) hlti fun j c hj hc => ?_
                by_cases e : j = i
                · subst e; rw [hb] at hc; injection hc with hc; rw [← hc]; simp [digB, h48, h57]
                · exact hinv j c (by omega) hc
            · have e57 : decide ((57 : Int) < (b.toNat : Int)) = true := decide_eq_true (by omega)
              rw [hno (by simp [digB, h57])]
              repeat' (first | (simp only [hd2, hi0, hb, e48, e57, Int.toNat_natCast, onC_true, ↓wA, ↓wC, wB, frzBE, frzBS, reduceEqDiff, reduceAdd, reduceSub, reduceIte, reduceCtorEq, Nat.reduceBEq, reduceLT]) | (with_reducible refine onI_bare ?_ ?_; focus (simp only [InR]; omega)) | ((first | apply execG_split | apply execC_split | apply onPick_split) <;> intro h <;> try simp only [h]))
          · have e48 : decide ((b.toNat : Int) < 48) = true := decide_eq_true (by omega)
            rw [hno (by simp [digB, h48])]
            repeat' (first | (simp only [hd2, hi0, hb, e48, Int.toNat_natCast, onC_true, ↓wA, ↓wC, wB, frzBE, frzBS, reduceEqDiff, reduceAdd, reduceSub, reduceIte, reduceCtorEq, Nat.reduceBEq, reduceLT]) | (with_reducible refine onI_bare ?_ ?_; focus (simp only [InR]; omega)) | ((first | apply execG_split | apply execC_split | apply onPick_split) <;> intro h <;> try simp only [h]))
        · intro hinv hd2
          have hall : (rdU s).all digB = true := List.all_eq_true.2 fun b hb => by
            obtain ⟨j, hj⟩ := List.getElem?_of_mem hb
            exact hinv j b (lt_of_get hj) hj
          have hbd := digs_takeBd (s := rdU s) (i := (rdU s).length) (Nat.le_refl _) (by omega) (fun j c hj hc => hinv j c hj hc)
          rw [List.take_length] at hbd
          have hvb := rdV_bd hwl.2 hall
          have hN := l1NumZ_fn (rdV s) (by omega) (by omega)
          simp only [if_true, Bool.false_eq_true, if_false] at hV
          rw [List.take_length]
          by_cases he : Lib.itoa (rdV s) = s
          · have de : decide (Lib.itoa (rdV s) = s) = true := decide_eq_true he
            rw [rdR_some ⟨hwl.1, hwl.2, hall, he⟩]
            rw [hV] at hN de ⊢
            repeat' (first | (simp only [hd2, hlt, de, ↓wA, ↓wC, wB, frzBE, frzBS, reduceEqDiff, reduceAdd, reduceSub, reduceIte, reduceCtorEq, Nat.reduceBEq, reduceLT]) | (refine call_det (hN) rfl rfl ?_) | (refine callP_det (hN) rfl rfl ?_) | (with_reducible refine onI_bare ?_ ?_; focus (simp only [InR]; omega)) | ((first | apply execG_split | apply execC_split | apply onPick_split) <;> intro h <;> try simp only [h]))
          · have de : decide (Lib.itoa (rdV s) = s) = false := decide_eq_false he
            rw [rdR_none fun h => he h.2.2.2]
            rw [hV] at hN de
            repeat' (first | (simp only [hd2, hlt, de, ↓wA, ↓wC, wB, frzBE, frzBS, reduceEqDiff, reduceAdd, reduceSub, reduceIte, reduceCtorEq, Nat.reduceBEq, reduceLT]) | (refine call_det (hN) rfl rfl ?_) | (refine callP_det (hN) rfl rfl ?_) | (with_reducible refine onI_bare ?_ ?_; focus (simp only [InR]; omega)) | ((first | apply execG_split | apply execC_split | apply onPick_split) <;> intro h <;> try simp only [h]))
end Go.Pe.Tryd
set_option maxRecDepth 100000
set_option maxHeartbeats 4000000
set_option linter.all false
namespace Go.Pe.Tryd
open Nat (reduceEqDiff reduceAdd reduceSub reduceLT)
open Go.Proofs.Tryd Go.Sort
theorem implParse_fn (s : List UInt8) (hl : s.length ≤ 1048576) : Fn prog 14 [.str s] (fun rs => rs = pyR s) := by
  have c1l := cut_le s [58, 32, 43]
  have h1 := cutN_fn s [58, 32, 43] (by omega)
  have hr : (rowI s) = ⟨dOf (Lib.cut s [58, 32, 43]).1, dOf (Lib.cut (Lib.cut s [58, 32, 43]).2.1 [32, 45]).1,
    min (dOf (Lib.cut (Lib.cut (Lib.cut s [58, 32, 43]).2.1 [32, 45]).2.1 [32, 40]).1 - max (dOf (cutSuf (Lib.cut (Lib.cut (Lib.cut s [58, 32, 43]).2.1 [32, 45]).2.1 [32, 40]).2.1 sufD)) 0) 9999,
    max (dOf (cutSuf (Lib.cut (Lib.cut (Lib.cut s [58, 32, 43]).2.1 [32, 45]).2.1 [32, 40]).2.1 sufD)) 0,
    (dOf (Lib.cut (Lib.cut (Lib.cut s [58, 32, 43]).2.1 [32, 45]).2.1 [32, 40]).1 - max (dOf (cutSuf (Lib.cut (Lib.cut (Lib.cut s [58, 32, 43]).2.1 [32, 45]).2.1 [32, 40]).2.1 sufD)) 0) -
      min (dOf (Lib.cut (Lib.cut (Lib.cut s [58, 32, 43]).2.1 [32, 45]).2.1 [32, 40]).1 - max (dOf (cutSuf (Lib.cut (Lib.cut (Lib.cut s [58, 32, 43]).2.1 [32, 45]).2.1 [32, 40]).2.1 sufD)) 0) 9999⟩ := rfl
  generalize hc1 : Lib.cut s [58, 32, 43] = c1 at *
  have c2l := cut_le c1.2.1 [32, 45]
  have h2 := cutN_fn c1.2.1 [32, 45] (by omega)
  generalize hc2 : Lib.cut c1.2.1 [32, 45] = c2 at *
  have c3l := cut_le c2.2.1 [32, 40]
  have h3 := cutN_fn c2.2.1 [32, 40] (by omega)
  generalize hc3 : Lib.cut c2.2.1 [32, 40] = c3 at *
  have h4 := cutSuf_fn c3.2.1 sufD (by omega)
  have c4l := cutSuf_le c3.2.1 sufD
  generalize hc4 : cutSuf c3.2.1 sufD = c4 at *
  have g1 := digitsOf_fn c1.1
  have g2 := digitsOf_fn c2.1
  have g3 := digitsOf_fn c3.1
  have g4 := digitsOf_fn c4
  have b3 := dOf_bd c3.1
  have b4 := dOf_bd c4
  unfold pyR pyOK
  have hV := isYearRow_fn (rowI s)
  generalize dOf c1.1 = y at *
  generalize dOf c2.1 = m at *
  generalize dOf c3.1 = t at *
  generalize dOf c4 = x at *
  have hY := yearLine_fn (rowI s)
  have hG := gone_fn (rowI s)
  rw [hr] at hV hY hG ⊢
  simp only [sufD] at h4
  simp only [Row.d] at hV hY hG
  have hmx : (if (0 : Int) ≤ x then x else 0) = max x 0 := by simp only [Int.max_def]; split <;> split <;> omega
  generalize hR : (⟨y, m, min (t - max x 0) 9999, max x 0, t - max x 0 - min (t - max x 0) 9999⟩ : Row) = R at *
  cases hok : R.ok with
  | false =>
    rw [hok] at hV
    refine Fn_of' (fn := f14) (by exact func14) c14 r14 (n := 76) (by rfl) (rv := [.tmp 2, .tmp 3, .tmp 4, .tmp 5]) (by rfl) (by simp) ?_
    unfold m14
    try simp only [wQ]
    repeat' (first | (simp only [onC_true, ↓wA, ↓wC, wB, frzBE, frzBS, reduceEqDiff, reduceAdd, reduceSub, reduceIte, reduceCtorEq, Nat.reduceBEq, reduceLT]) | (refine call_det (h1) rfl rfl ?_) | (refine callP_det (h1) rfl rfl ?_) | (refine call_det (h2) rfl rfl ?_) | (refine callP_det (h2) rfl rfl ?_) | (refine call_det (h3) rfl rfl ?_) | (refine callP_det (h3) rfl rfl ?_) | (refine call_det (h4) rfl rfl ?_) | (refine callP_det (h4) rfl rfl ?_) | (refine call_det (g1) rfl rfl ?_) | (refine callP_det (g1) rfl rfl ?_) | (refine call_det (g2) rfl rfl ?_) | (refine callP_det (g2) rfl rfl ?_) | (refine call_det (g3) rfl rfl ?_) | (refine callP_det (g3) rfl rfl ?_) | (refine call_det (g4) rfl rfl ?_) | (refine callP_det (g4) rfl rfl ?_) | (refine call_det (hV) rfl rfl ?_) | (refine callP_det (hV) rfl rfl ?_) | (with_reducible refine onI_bare ?_ ?_; focus (simp only [InR]; omega)) | ((first | apply execG_split | apply execC_split | apply onPick_split) <;> intro h <;> try simp only [h]))
  | true =>
    rw [hok] at hV
    have hY := hY hok
    have hG := hG hok
    by_cases he : yl R = s
    · have de : decide (yl R = s) = true := decide_eq_true he
      refine Fn_of' (fn := f14) (by exact func14) c14 r14 (n := 76) (by rfl) (rv := [.tmp 2, .tmp 3, .tmp 4, .tmp 5]) (by rfl) (by simp) ?_
      unfold m14
      try simp only [wQ]
      repeat' (first | (simp only [onC_true, de, ↓wA, ↓wC, wB, frzBE, frzBS, reduceEqDiff, reduceAdd, reduceSub, reduceIte, reduceCtorEq, Nat.reduceBEq, reduceLT]) | (refine call_det (h1) rfl rfl ?_) | (refine callP_det (h1) rfl rfl ?_) | (refine call_det (h2) rfl rfl ?_) | (refine callP_det (h2) rfl rfl ?_) | (refine call_det (h3) rfl rfl ?_) | (refine callP_det (h3) rfl rfl ?_) | (refine call_det (h4) rfl rfl ?_) | (refine callP_det (h4) rfl rfl ?_) | (refine call_det (g1) rfl rfl ?_) | (refine callP_det (g1) rfl rfl ?_) | (refine call_det (g2) rfl rfl ?_) | (refine callP_det (g2) rfl rfl ?_) | (refine call_det (g3) rfl rfl ?_) | (refine callP_det (g3) rfl rfl ?_) | (refine call_det (g4) rfl rfl ?_) | (refine callP_det (g4) rfl rfl ?_) | (refine call_det (hV) rfl rfl ?_) | (refine callP_det (hV) rfl rfl ?_) | (refine call_det (hY) rfl rfl ?_) | (refine callP_det (hY) rfl rfl ?_) | (refine callP_det hG rfl rfl ?_) | (with_reducible refine onI_bare ?_ ?_; focus (simp only [InR]; omega)) | ((first | apply execG_split | apply execC_split | apply onPick_split) <;> intro h <;> try simp only [h]))
      all_goals (subst hR; rfl)
    · have de : decide (yl R = s) = false := decide_eq_false he
      refine Fn_of' (fn := f14) (by exact func14) c14 r14 (n := 76) (by rfl) (rv := [.tmp 2, .tmp 3, .tmp 4, .tmp 5]) (by rfl) (by simp) ?_
      unfold m14
      try simp only [wQ]
      repeat' (first | (simp only [onC_true, de, ↓wA, ↓wC, wB, frzBE, frzBS, reduceEqDiff, reduceAdd, reduceSub, reduceIte, reduceCtorEq, Nat.reduceBEq, reduceLT]) | (refine call_det (h1) rfl rfl ?_) | (refine callP_det (h1) rfl rfl ?_) | (refine call_det (h2) rfl rfl ?_) | (refine callP_det (h2) rfl rfl ?_) | (refine call_det (h3) rfl rfl ?_) | (refine callP_det (h3) rfl rfl ?_) | (refine call_det (h4) rfl rfl ?_) | (refine callP_det (h4) rfl rfl ?_) | (refine call_det (g1) rfl rfl ?_) | (refine callP_det (g1) rfl rfl ?_) | (refine call_det (g2) rfl rfl ?_) | (refine callP_det (g2) rfl rfl ?_) | (refine call_det (g3) rfl rfl ?_) | (refine callP_det (g3) rfl rfl ?_) | (refine call_det (g4) rfl rfl ?_) | (refine callP_det (g4) rfl rfl ?_) | (refine call_det (hV) rfl rfl ?_) | (refine callP_det (hV) rfl rfl ?_) | (refine call_det (hY) rfl rfl ?_) | (refine callP_det (hY) rfl rfl ?_) | (with_reducible refine onI_bare ?_ ?_; focus (simp only [InR]; omega)) | ((first | apply execG_split | apply execC_split | apply onPick_split) <;> intro h <;> try simp only [h]))
theorem rdR_form (s : List UInt8) : rdR s = [.int .i64 (rdN s), .bool (readI s).isSome] := by
  unfold rdR rdN
  cases readI s <;> rfl
theorem l1ReadF_fn (s : List UInt8) (hl : s.length ≤ 100000000) : Fn prog 38 [.str s] (fun rs => rs = [.int .i64 (rdN s), .bool (readI s).isSome]) := by
  rw [← rdR_form]; exact l1Read_fn s hl
theorem l1Least_fn (a b : Int) : Fn prog 39 [.int .i64 a, .int .i64 b] (fun rs => rs = [.int .i64 (min a b)]) := by
  by_cases h : a < b
  · have hd : decide (a < b) = true := decide_eq_true h
    rw [Int.min_eq_left (by omega)]
    refine Fn_of' (fn := f39) (by exact func39) c39 r39 (n := 10) (by rfl) (rv := [.tmp 4]) (by rfl) (by simp) ?_
    unfold m39
    try simp only [wQ]
    repeat' (first | (simp only [hd, ↓wA, ↓wC, wB, frzBE, frzBS, reduceEqDiff, reduceAdd, reduceSub, reduceIte, reduceCtorEq, Nat.reduceBEq, reduceLT]) | ((first | apply execG_split | apply execC_split | apply onPick_split) <;> intro h <;> try simp only [h]))
  · have hd : decide (a < b) = false := decide_eq_false h
    rw [Int.min_eq_right (by omega)]
    refine Fn_of' (fn := f39) (by exact func39) c39 r39 (n := 10) (by rfl) (rv := [.tmp 4]) (by rfl) (by simp) ?_
    unfold m39
    try simp only [wQ]
    repeat' (first | (simp only [hd, ↓wA, ↓wC, wB, frzBE, frzBS, reduceEqDiff, reduceAdd, reduceSub, reduceIte, reduceCtorEq, Nat.reduceBEq, reduceLT]) | ((first | apply execG_split | apply execC_split | apply onPick_split) <;> intro h <;> try simp only [h]))
theorem noW (s : List UInt8) (h : wordsOf s = none) : spyR s = [.int .i64 0, .int .i64 0, .int .i64 0, .bool false] := by
  unfold spyR; rw [h]
theorem parts_le (x : UInt8) (s : List UInt8) : ∀ w ∈ parts x s, w.length ≤ s.length := by
  intro w hw
  unfold parts at hw
  rcases List.mem_append.1 hw with hw | hw
  · have : ∀ i, ∀ u ∈ (spl x s i).1, u.length ≤ s.length := by
      intro i
      induction i with
      | zero => intro u hu; simp [spl] at hu
      | succ i ih =>
        intro u hu
        simp only [spl] at hu
        split at hu
        · split at hu
          · rcases List.mem_append.1 hu with hu | hu
            · exact ih u hu
            · rw [List.mem_singleton.1 hu, List.length_drop, List.length_take]; omega
          · exact ih u hu
        · exact ih u hu
    exact this _ w hw
  · rw [List.mem_singleton.1 hw, List.length_drop]; omega
theorem specParse_fn (s : List UInt8) (hl : s.length ≤ 1048576) : Fn prog 16 [.str s] (fun rs => rs = spyR s) := by
  have hS := l1Split_fn s 32 (by omega)
  have hple := parts_le 32 s
  by_cases h60 : s.length ≤ 60
  case neg =>
    have d60 : decide ((60 : Int) < (s.length : Int)) = true := decide_eq_true (by omega)
    rw [noW s (by unfold wordsOf; split <;> first | rfl | (rw [if_neg (fun h => h60 h.1)]))]
    refine Fn_of' (fn := f16) (by exact func16) c16 r16 (n := 133) (by rfl) (rv := [.tmp 2, .tmp 3, .tmp 4, .tmp 5]) (by rfl) (by simp) ?_
    unfold m16
    try simp only [wQ]
    repeat' (first | (simp only [d60, ↓wA, ↓wC, wB, frzBE, frzBS, reduceEqDiff, reduceAdd, reduceSub, reduceIte, reduceCtorEq, Nat.reduceBEq, reduceLT]) | (refine call_det (hS) rfl rfl ?_) | (refine callP_det (hS) rfl rfl ?_) | ((first | apply execG_split | apply execC_split | apply onPick_split) <;> intro h <;> try simp only [h]))
  have d60 : decide ((60 : Int) < (s.length : Int)) = false := decide_eq_false (by omega)
  have short : (parts 32 s).length < 3 → Fn prog 16 [.str s] (fun rs => rs = spyR s) := by
    intro h3
    have d3 : decide (((parts 32 s).length : Int) < 3) = true := decide_eq_true (by omega)
    rw [noW s (by
      unfold wordsOf
      split
      · rename_i w0 w1 w2 r hp
        rw [hp] at h3; simp at h3; omega
      · rfl)]
    refine Fn_of' (fn := f16) (by exact func16) c16 r16 (n := 133) (by rfl) (rv := [.tmp 2, .tmp 3, .tmp 4, .tmp 5]) (by rfl) (by simp) ?_
    unfold m16
    try simp only [wQ]
    repeat' (first | (simp only [d60, dl_len, d3, ↓wA, ↓wC, wB, frzBE, frzBS, reduceEqDiff, reduceAdd, reduceSub, reduceIte, reduceCtorEq, Nat.reduceBEq, reduceLT]) | (refine call_det (hS) rfl rfl ?_) | (refine callP_det (hS) rfl rfl ?_) | ((first | apply execG_split | apply execC_split | apply onPick_split) <;> intro h <;> try simp only [h]))
  match hp : parts 32 s with
  | [] => exact short (by rw [hp]; simp)
  | [_] => exact short (by rw [hp]; simp)
  | [_, _] => exact short (by rw [hp]; simp)
  | w0 :: w1 :: w2 :: r =>
    clear short
    rw [hp] at hS hple
    have d3 : decide (((w0 :: w1 :: w2 :: r).length : Int) < 3) = false := decide_eq_false (by simp only [List.length_cons]; omega)
    generalize hWS : w0 :: w1 :: w2 :: r = ws at *
    have i0 : ws[(0 : Int).toNat]? = some w0 := by rw [← hWS]; rfl
    have i1 : ws[(1 : Int).toNat]? = some w1 := by rw [← hWS]; rfl
    have i2 : ws[(2 : Int).toNat]? = some w2 := by rw [← hWS]; rfl
    have l0 := hple w0 (List.mem_of_getElem? i0)
    have l1 := hple w1 (List.mem_of_getElem? i1)
    have l2 := hple w2 (List.mem_of_getElem? i2)
    by_cases h0 : 2 ≤ w0.length
    case neg =>
      have e0 : decide ((w0.length : Int) < 2) = true := decide_eq_true (by omega)
      rw [noW s (by unfold wordsOf; rw [hp, ← hWS]; simp only; rw [if_neg (fun h => h0 h.2.1)])]
      refine Fn_of' (fn := f16) (by exact func16) c16 r16 (n := 133) (by rfl) (rv := [.tmp 2, .tmp 3, .tmp 4, .tmp 5]) (by rfl) (by simp) ?_
      unfold m16
      try simp only [wQ]
      repeat' (first | (simp only [d60, dl_len, d3, dl_nth, i0, e0, Option.map_some, onC_true, ↓wA, ↓wC, wB, frzBE, frzBS, reduceEqDiff, reduceAdd, reduceSub, reduceIte, reduceCtorEq, Nat.reduceBEq, reduceLT]) | (refine call_det (hS) rfl rfl ?_) | (refine callP_det (hS) rfl rfl ?_) | (with_reducible refine onC_i ?_ ?_; focus omega) | ((first | apply execG_split | apply execC_split | apply onPick_split) <;> intro h <;> try simp only [h]))
    have e0 : decide ((w0.length : Int) < 2) = false := decide_eq_false (by omega)
    by_cases h1 : 2 ≤ w1.length
    case neg =>
      have e1 : decide ((w1.length : Int) < 2) = true := decide_eq_true (by omega)
      rw [noW s (by unfold wordsOf; rw [hp, ← hWS]; simp only; rw [if_neg (fun h => h1 h.2.2.1)])]
      refine Fn_of' (fn := f16) (by exact func16) c16 r16 (n := 133) (by rfl) (rv := [.tmp 2, .tmp 3, .tmp 4, .tmp 5]) (by rfl) (by simp) ?_
      unfold m16
      try simp only [wQ]
      repeat' (first | (simp only [d60, dl_len, d3, dl_nth, i0, e0, i1, e1, Option.map_some, onC_true, ↓wA, ↓wC, wB, frzBE, frzBS, reduceEqDiff, reduceAdd, reduceSub, reduceIte, reduceCtorEq, Nat.reduceBEq, reduceLT]) | (refine call_det (hS) rfl rfl ?_) | (refine callP_det (hS) rfl rfl ?_) | (with_reducible refine onC_i ?_ ?_; focus omega) | ((first | apply execG_split | apply execC_split | apply onPick_split) <;> intro h <;> try simp only [h]))
    have e1 : decide ((w1.length : Int) < 2) = false := decide_eq_false (by omega)
    by_cases h2 : 2 ≤ w2.length
    case neg =>
      have e2 : decide ((w2.length : Int) < 2) = true := decide_eq_true (by omega)
      rw [noW s (by unfold wordsOf; rw [hp, ← hWS]; simp only; rw [if_neg (fun h => h2 h.2.2.2)])]
      refine Fn_of' (fn := f16) (by exact func16) c16 r16 (n := 133) (by rfl) (rv := [.tmp 2, .tmp 3, .tmp 4, .tmp 5]) (by rfl) (by simp) ?_
      unfold m16
      try simp only [wQ]
      repeat' (first | (simp only [d60, dl_len, d3, dl_nth, i0, e0, i1, e1, i2, e2, Option.map_some, onC_true, ↓wA, ↓wC, wB, frzBE, frzBS, reduceEqDiff, reduceAdd, reduceSub, reduceIte, reduceCtorEq, Nat.reduceBEq, reduceLT]) | (refine call_det (hS) rfl rfl ?_) | (refine callP_det (hS) rfl rfl ?_) | (with_reducible refine onC_i ?_ ?_; focus omega) | ((first | apply execG_split | apply execC_split | apply onPick_split) <;> intro h <;> try simp only [h]))
    have e2 : decide ((w2.length : Int) < 2) = false := decide_eq_false (by omega)
    have t0 : ((w0.length : Int) - 1).toNat = w0.length - 1 := by omega
    have R0 := l1ReadF_fn (w0.take (w0.length - 1)) (by rw [List.length_take]; omega)
    have R1 := l1ReadF_fn (w1.drop (1 : Int).toNat) (by rw [List.length_drop]; omega)
    have R2 := l1ReadF_fn (w2.drop (1 : Int).toNat) (by rw [List.length_drop]; omega)
    have b0 := rdN_bd (w0.take (w0.length - 1))
    have b1 := rdN_bd (w1.drop (1 : Int).toNat)
    have b2 := rdN_bd (w2.drop (1 : Int).toNat)
    have hw : ∀ d : Int, w3d r = d → wordsOf s = some ⟨w0, w1, w2, d⟩ := by
      intro d hd
      unfold wordsOf
      rw [hp, ← hWS]
      simp only
      rw [if_pos ⟨h60, h0, h1, h2⟩, hd]
    cases hr : r with
    | nil =>
      have hw := hw 0 (by rw [hr]; rfl)
      have d4 : decide ((3 : Int) < (ws.length : Int)) = false := decide_eq_false (by rw [← hWS, hr]; simp)
      cases hG : readI (w2.drop (1 : Int).toNat) with
      | none =>
        rw [hG] at R2
        have hspy := spyR_none hw hG
        rw [hspy]
        refine Fn_of' (fn := f16) (by exact func16) c16 r16 (n := 133) (by rfl) (rv := [.tmp 2, .tmp 3, .tmp 4, .tmp 5]) (by rfl) (by simp) ?_
        unfold m16
        try simp only [wQ]
        repeat' (first | (simp only [d60, dl_len, d3, dl_nth, i0, e0, i1, e1, i2, e2, t0, d4, d4, d4, Option.map_some, Option.isSome, onC_true, ↓wA, ↓wC, wB, frzBE, frzBS, reduceEqDiff, reduceAdd, reduceSub, reduceIte, reduceCtorEq, Nat.reduceBEq, reduceLT]) | (refine call_det (hS) rfl rfl ?_) | (refine callP_det (hS) rfl rfl ?_) | (refine call_det (R0) rfl rfl ?_) | (refine callP_det (R0) rfl rfl ?_) | (refine call_det (R1) rfl rfl ?_) | (refine callP_det (R1) rfl rfl ?_) | (refine call_det (R2) rfl rfl ?_) | (refine callP_det (R2) rfl rfl ?_) | (refine call_det (hS) rfl rfl ?_) | (refine callP_det (hS) rfl rfl ?_) | (refine onJ_q ?_) | (with_reducible refine onI_bare ?_ ?_; focus (simp only [InR]; omega)) | (with_reducible refine onC_i ?_ ?_; focus omega) | ((first | apply execG_split | apply execC_split | apply onPick_split) <;> intro h <;> try simp only [h]))
      | some g =>
        have hgN : rdN (w2.drop (1 : Int).toNat) = g := by unfold rdN; rw [hG]; rfl
        rw [hG, hgN] at R2
        rw [hgN] at b2
        simp only [Option.isSome] at R2
        have hspy := spyR_some hw hG
        simp only at hspy
        rw [hspy]
        have hrow : Wd.row ⟨w0, w1, w2, (0 : Int)⟩ g = ⟨rdN (w0.take (w0.length - 1)), rdN (w1.drop (1 : Int).toNat), min 9999 (g - (0 : Int)), (0 : Int), g - (0 : Int) - min 9999 (g - (0 : Int))⟩ := rfl
        have hL := l1Least_fn 9999 (g - (0 : Int))
        have hV := l26One_fn (Wd.row ⟨w0, w1, w2, (0 : Int)⟩ g)
        have hLn := l26Line_fn (Wd.row ⟨w0, w1, w2, (0 : Int)⟩ g)
        rw [hrow] at hV hLn ⊢
        simp only [Row.d] at hV hLn
        generalize rdN (w0.take (w0.length - 1)) = y at *
        generalize rdN (w1.drop (1 : Int).toNat) = m at *
        by_cases hd0 : 0 ≤ (0 : Int)
        case neg =>
          have dd0 : decide ((0 : Int) < 0) = true := decide_eq_true (by omega)
          rw [if_neg (fun h => hd0 h.1)]
          refine Fn_of' (fn := f16) (by exact func16) c16 r16 (n := 133) (by rfl) (rv := [.tmp 2, .tmp 3, .tmp 4, .tmp 5]) (by rfl) (by simp) ?_
          unfold m16
          try simp only [wQ]
          repeat' (first | (simp only [d60, dl_len, d3, dl_nth, i0, e0, i1, e1, i2, e2, t0, d4, dd0, d4, d4, Option.map_some, Option.isSome, onC_true, ↓wA, ↓wC, wB, frzBE, frzBS, reduceEqDiff, reduceAdd, reduceSub, reduceIte, reduceCtorEq, Nat.reduceBEq, reduceLT]) | (refine call_det (hS) rfl rfl ?_) | (refine callP_det (hS) rfl rfl ?_) | (refine call_det (R0) rfl rfl ?_) | (refine callP_det (R0) rfl rfl ?_) | (refine call_det (R1) rfl rfl ?_) | (refine callP_det (R1) rfl rfl ?_) | (refine call_det (R2) rfl rfl ?_) | (refine callP_det (R2) rfl rfl ?_) | (refine call_det (hS) rfl rfl ?_) | (refine callP_det (hS) rfl rfl ?_) | (refine onJ_q ?_) | (with_reducible refine onI_bare ?_ ?_; focus (simp only [InR]; omega)) | (with_reducible refine onC_i ?_ ?_; focus omega) | ((first | apply execG_split | apply execC_split | apply onPick_split) <;> intro h <;> try simp only [h]))
        have dd0 : decide ((0 : Int) < 0) = false := decide_eq_false (by omega)
        by_cases hdg : (0 : Int) ≤ g
        case neg =>
          have ddg : decide (g < (0 : Int)) = true := decide_eq_true (by omega)
          rw [if_neg (fun h => hdg h.2.1)]
          refine Fn_of' (fn := f16) (by exact func16) c16 r16 (n := 133) (by rfl) (rv := [.tmp 2, .tmp 3, .tmp 4, .tmp 5]) (by rfl) (by simp) ?_
          unfold m16
          try simp only [wQ]
          repeat' (first | (simp only [d60, dl_len, d3, dl_nth, i0, e0, i1, e1, i2, e2, t0, d4, dd0, ddg, d4, d4, Option.map_some, Option.isSome, onC_true, ↓wA, ↓wC, wB, frzBE, frzBS, reduceEqDiff, reduceAdd, reduceSub, reduceIte, reduceCtorEq, Nat.reduceBEq, reduceLT]) | (refine call_det (hS) rfl rfl ?_) | (refine callP_det (hS) rfl rfl ?_) | (refine call_det (R0) rfl rfl ?_) | (refine callP_det (R0) rfl rfl ?_) | (refine call_det (R1) rfl rfl ?_) | (refine callP_det (R1) rfl rfl ?_) | (refine call_det (R2) rfl rfl ?_) | (refine callP_det (R2) rfl rfl ?_) | (refine call_det (hS) rfl rfl ?_) | (refine callP_det (hS) rfl rfl ?_) | (refine onJ_q ?_) | (with_reducible refine onI_bare ?_ ?_; focus (simp only [InR]; omega)) | (with_reducible refine onC_i ?_ ?_; focus omega) | ((first | apply execG_split | apply execC_split | apply onPick_split) <;> intro h <;> try simp only [h]))
        have ddg : decide (g < (0 : Int)) = false := decide_eq_false (by omega)
        generalize hRR : (⟨y, m, min 9999 (g - (0 : Int)), (0 : Int), g - (0 : Int) - min 9999 (g - (0 : Int))⟩ : Row) = R at *
        cases hok : R.ok with
        | false =>
          rw [hok] at hV
          rw [if_neg (fun h => by cases h.2.2.1)]
          refine Fn_of' (fn := f16) (by exact func16) c16 r16 (n := 133) (by rfl) (rv := [.tmp 2, .tmp 3, .tmp 4, .tmp 5]) (by rfl) (by simp) ?_
          unfold m16
          try simp only [wQ]
          repeat' (first | (simp only [d60, dl_len, d3, dl_nth, i0, e0, i1, e1, i2, e2, t0, d4, dd0, ddg, d4, d4, Option.map_some, Option.isSome, onC_true, ↓wA, ↓wC, wB, frzBE, frzBS, reduceEqDiff, reduceAdd, reduceSub, reduceIte, reduceCtorEq, Nat.reduceBEq, reduceLT]) | (refine call_det (hS) rfl rfl ?_) | (refine callP_det (hS) rfl rfl ?_) | (refine call_det (R0) rfl rfl ?_) | (refine callP_det (R0) rfl rfl ?_) | (refine call_det (R1) rfl rfl ?_) | (refine callP_det (R1) rfl rfl ?_) | (refine call_det (R2) rfl rfl ?_) | (refine callP_det (R2) rfl rfl ?_) | (refine call_det (hL) rfl rfl ?_) | (refine callP_det (hL) rfl rfl ?_) | (refine call_det (hV) rfl rfl ?_) | (refine callP_det (hV) rfl rfl ?_) | (refine call_det (hS) rfl rfl ?_) | (refine callP_det (hS) rfl rfl ?_) | (refine onJ_q ?_) | (with_reducible refine onI_bare ?_ ?_; focus (simp only [InR]; omega)) | (with_reducible refine onC_i ?_ ?_; focus omega) | ((first | apply execG_split | apply execC_split | apply onPick_split) <;> intro h <;> try simp only [h]))
        | true =>
          rw [hok] at hV
          have hLn := hLn hok
          by_cases he : yl R = s
          · have de : decide (yl R = s) = true := decide_eq_true he
            rw [if_pos ⟨hd0, hdg, rfl, he⟩]
            refine Fn_of' (fn := f16) (by exact func16) c16 r16 (n := 133) (by rfl) (rv := [.tmp 2, .tmp 3, .tmp 4, .tmp 5]) (by rfl) (by simp) ?_
            unfold m16
            try simp only [wQ]
            repeat' (first | (simp only [d60, dl_len, d3, dl_nth, i0, e0, i1, e1, i2, e2, t0, d4, dd0, ddg, de, d4, d4, Option.map_some, Option.isSome, onC_true, ↓wA, ↓wC, wB, frzBE, frzBS, reduceEqDiff, reduceAdd, reduceSub, reduceIte, reduceCtorEq, Nat.reduceBEq, reduceLT]) | (refine call_det (hS) rfl rfl ?_) | (refine callP_det (hS) rfl rfl ?_) | (refine call_det (R0) rfl rfl ?_) | (refine callP_det (R0) rfl rfl ?_) | (refine call_det (R1) rfl rfl ?_) | (refine callP_det (R1) rfl rfl ?_) | (refine call_det (R2) rfl rfl ?_) | (refine callP_det (R2) rfl rfl ?_) | (refine call_det (hL) rfl rfl ?_) | (refine callP_det (hL) rfl rfl ?_) | (refine call_det (hV) rfl rfl ?_) | (refine callP_det (hV) rfl rfl ?_) | (refine call_det (hLn) rfl rfl ?_) | (refine callP_det (hLn) rfl rfl ?_) | (refine call_det (hS) rfl rfl ?_) | (refine callP_det (hS) rfl rfl ?_) | (refine onJ_q ?_) | (with_reducible refine onI_bare ?_ ?_; focus (simp only [InR]; omega)) | (with_reducible refine onC_i ?_ ?_; focus omega) | ((first | apply execG_split | apply execC_split | apply onPick_split) <;> intro h <;> try simp only [h]))
            all_goals (subst hRR; rfl)
          · have de : decide (yl R = s) = false := decide_eq_false he
            rw [if_neg (fun h => he h.2.2.2)]
            refine Fn_of' (fn := f16) (by exact func16) c16 r16 (n := 133) (by rfl) (rv := [.tmp 2, .tmp 3, .tmp 4, .tmp 5]) (by rfl) (by simp) ?_
            unfold m16
            try simp only [wQ]
            repeat' (first | (simp only [d60, dl_len, d3, dl_nth, i0, e0, i1, e1, i2, e2, t0, d4, dd0, ddg, de, d4, d4, Option.map_some, Option.isSome, onC_true, ↓wA, ↓wC, wB, frzBE, frzBS, reduceEqDiff, reduceAdd, reduceSub, reduceIte, reduceCtorEq, Nat.reduceBEq, reduceLT]) | (refine call_det (hS) rfl rfl ?_) | (refine callP_det (hS) rfl rfl ?_) | (refine call_det (R0) rfl rfl ?_) | (refine callP_det (R0) rfl rfl ?_) | (refine call_det (R1) rfl rfl ?_) | (refine callP_det (R1) rfl rfl ?_) | (refine call_det (R2) rfl rfl ?_) | (refine callP_det (R2) rfl rfl ?_) | (refine call_det (hL) rfl rfl ?_) | (refine callP_det (hL) rfl rfl ?_) | (refine call_det (hV) rfl rfl ?_) | (refine callP_det (hV) rfl rfl ?_) | (refine call_det (hLn) rfl rfl ?_) | (refine callP_det (hLn) rfl rfl ?_) | (refine call_det (hS) rfl rfl ?_) | (refine callP_det (hS) rfl rfl ?_) | (refine onJ_q ?_) | (with_reducible refine onI_bare ?_ ?_; focus (simp only [InR]; omega)) | (with_reducible refine onC_i ?_ ?_; focus omega) | ((first | apply execG_split | apply execC_split | apply onPick_split) <;> intro h <;> try simp only [h]))
    | cons w3 r' =>
      have i3 : ws[(3 : Int).toNat]? = some w3 := by rw [← hWS, hr]; rfl
      have l3 := hple w3 (List.mem_of_getElem? i3)
      have d4 : decide ((3 : Int) < (ws.length : Int)) = true := decide_eq_true (by rw [← hWS, hr]; simp only [List.length_cons]; omega)
      by_cases h3 : 1 < w3.length
      · have hw := hw (rdN (w3.drop (1 : Int).toNat)) (by rw [hr]; simp only [w3d]; rw [if_pos h3]; rfl)
        have e3 : decide ((1 : Int) < (w3.length : Int)) = true := decide_eq_true (by omega)
        have R3 := l1ReadF_fn (w3.drop (1 : Int).toNat) (by rw [List.length_drop]; omega)
        have b3 := rdN_bd (w3.drop (1 : Int).toNat)
        generalize hX : rdN (w3.drop (1 : Int).toNat) = X at *
        cases hG : readI (w2.drop (1 : Int).toNat) with
        | none =>
          rw [hG] at R2
          have hspy := spyR_none hw hG
          rw [hspy]
          refine Fn_of' (fn := f16) (by exact func16) c16 r16 (n := 133) (by rfl) (rv := [.tmp 2, .tmp 3, .tmp 4, .tmp 5]) (by rfl) (by simp) ?_
          unfold m16
          try simp only [wQ]
          repeat' (first | (simp only [d60, dl_len, d3, dl_nth, i0, e0, i1, e1, i2, e2, t0, d4, i3, e3, Option.map_some, Option.isSome, onC_true, ↓wA, ↓wC, wB, frzBE, frzBS, reduceEqDiff, reduceAdd, reduceSub, reduceIte, reduceCtorEq, Nat.reduceBEq, reduceLT]) | (refine call_det (hS) rfl rfl ?_) | (refine callP_det (hS) rfl rfl ?_) | (refine call_det (R0) rfl rfl ?_) | (refine callP_det (R0) rfl rfl ?_) | (refine call_det (R1) rfl rfl ?_) | (refine callP_det (R1) rfl rfl ?_) | (refine call_det (R2) rfl rfl ?_) | (refine callP_det (R2) rfl rfl ?_) | (refine call_det (R3) rfl rfl ?_) | (refine callP_det (R3) rfl rfl ?_) | (refine onJ_q ?_) | (with_reducible refine onI_bare ?_ ?_; focus (simp only [InR]; omega)) | (with_reducible refine onC_i ?_ ?_; focus omega) | ((first | apply execG_split | apply execC_split | apply onPick_split) <;> intro h <;> try simp only [h]))
        | some g =>
          have hgN : rdN (w2.drop (1 : Int).toNat) = g := by unfold rdN; rw [hG]; rfl
          rw [hG, hgN] at R2
          rw [hgN] at b2
          simp only [Option.isSome] at R2
          have hspy := spyR_some hw hG
          simp only at hspy
          rw [hspy]
          have hrow : Wd.row ⟨w0, w1, w2, X⟩ g = ⟨rdN (w0.take (w0.length - 1)), rdN (w1.drop (1 : Int).toNat), min 9999 (g - X), X, g - X - min 9999 (g - X)⟩ := rfl
          have hL := l1Least_fn 9999 (g - X)
          have hV := l26One_fn (Wd.row ⟨w0, w1, w2, X⟩ g)
          have hLn := l26Line_fn (Wd.row ⟨w0, w1, w2, X⟩ g)
          rw [hrow] at hV hLn ⊢
          simp only [Row.d] at hV hLn
          generalize rdN (w0.take (w0.length - 1)) = y at *
          generalize rdN (w1.drop (1 : Int).toNat) = m at *
          by_cases hd0 : 0 ≤ X
          case neg =>
            have dd0 : decide (X < 0) = true := decide_eq_true (by omega)
            rw [if_neg (fun h => hd0 h.1)]
            refine Fn_of' (fn := f16) (by exact func16) c16 r16 (n := 133) (by rfl) (rv := [.tmp 2, .tmp 3, .tmp 4, .tmp 5]) (by rfl) (by simp) ?_
            unfold m16
            try simp only [wQ]
            repeat' (first | (simp only [d60, dl_len, d3, dl_nth, i0, e0, i1, e1, i2, e2, t0, d4, dd0, i3, e3, Option.map_some, Option.isSome, onC_true, ↓wA, ↓wC, wB, frzBE, frzBS, reduceEqDiff, reduceAdd, reduceSub, reduceIte, reduceCtorEq, Nat.reduceBEq, reduceLT]) | (refine call_det (hS) rfl rfl ?_) | (refine callP_det (hS) rfl rfl ?_) | (refine call_det (R0) rfl rfl ?_) | (refine callP_det (R0) rfl rfl ?_) | (refine call_det (R1) rfl rfl ?_) | (refine callP_det (R1) rfl rfl ?_) | (refine call_det (R2) rfl rfl ?_) | (refine callP_det (R2) rfl rfl ?_) | (refine call_det (R3) rfl rfl ?_) | (refine callP_det (R3) rfl rfl ?_) | (refine onJ_q ?_) | (with_reducible refine onI_bare ?_ ?_; focus (simp only [InR]; omega)) | (with_reducible refine onC_i ?_ ?_; focus omega) | ((first | apply execG_split | apply execC_split | apply onPick_split) <;> intro h <;> try simp only [h]))
          have dd0 : decide (X < 0) = false := decide_eq_false (by omega)
          by_cases hdg : X ≤ g
          case neg =>
            have ddg : decide (g < X) = true := decide_eq_true (by omega)
            rw [if_neg (fun h => hdg h.2.1)]
            refine Fn_of' (fn := f16) (by exact func16) c16 r16 (n := 133) (by rfl) (rv := [.tmp 2, .tmp 3, .tmp 4, .tmp 5]) (by rfl) (by simp) ?_
            unfold m16
            try simp only [wQ]
            repeat' (first | (simp only [d60, dl_len, d3, dl_nth, i0, e0, i1, e1, i2, e2, t0, d4, dd0, ddg, i3, e3, Option.map_some, Option.isSome, onC_true, ↓wA, ↓wC, wB, frzBE, frzBS, reduceEqDiff, reduceAdd, reduceSub, reduceIte, reduceCtorEq, Nat.reduceBEq, reduceLT]) | (refine call_det (hS) rfl rfl ?_) | (refine callP_det (hS) rfl rfl ?_) | (refine call_det (R0) rfl rfl ?_) | (refine callP_det (R0) rfl rfl ?_) | (refine call_det (R1) rfl rfl ?_) | (refine callP_det (R1) rfl rfl ?_) | (refine call_det (R2) rfl rfl ?_) | (refine callP_det (R2) rfl rfl ?_) | (refine call_det (R3) rfl rfl ?_) | (refine callP_det (R3) rfl rfl ?_) | (refine onJ_q ?_) | (with_reducible refine onI_bare ?_ ?_; focus (simp only [InR]; omega)) | (with_reducible refine onC_i ?_ ?_; focus omega) | ((first | apply execG_split | apply execC_split | apply onPick_split) <;> intro h <;> try simp only [h]))
          have ddg : decide (g < X) = false := decide_eq_false (by omega)
          generalize hRR : (⟨y, m, min 9999 (g - X), X, g - X - min 9999 (g - X)⟩ : Row) = R at *
          cases hok : R.ok with
          | false =>
            rw [hok] at hV
            rw [if_neg (fun h => by cases h.2.2.1)]
            refine Fn_of' (fn := f16) (by exact func16) c16 r16 (n := 133) (by rfl) (rv := [.tmp 2, .tmp 3, .tmp 4, .tmp 5]) (by rfl) (by simp) ?_
            unfold m16
            try simp only [wQ]
            repeat' (first | (simp only [d60, dl_len, d3, dl_nth, i0, e0, i1, e1, i2, e2, t0, d4, dd0, ddg, i3, e3, Option.map_some, Option.isSome, onC_true, ↓wA, ↓wC, wB, frzBE, frzBS, reduceEqDiff, reduceAdd, reduceSub, reduceIte, reduceCtorEq, Nat.reduceBEq, reduceLT]) | (refine call_det (hS) rfl rfl ?_) | (refine callP_det (hS) rfl rfl ?_) | (refine call_det (R0) rfl rfl ?_) | (refine callP_det (R0) rfl rfl ?_) | (refine call_det (R1) rfl rfl ?_) | (refine callP_det (R1) rfl rfl ?_) | (refine call_det (R2) rfl rfl ?_) | (refine callP_det (R2) rfl rfl ?_) | (refine call_det (hL) rfl rfl ?_) | (refine callP_det (hL) rfl rfl ?_) | (refine call_det (hV) rfl rfl ?_) | (refine callP_det (hV) rfl rfl ?_) | (refine call_det (R3) rfl rfl ?_) | (refine callP_det (R3) rfl rfl ?_) | (refine onJ_q ?_) | (with_reducible refine onI_bare ?_ ?_; focus (simp only [InR]; omega)) | (with_reducible refine onC_i ?_ ?_; focus omega) | ((first | apply execG_split | apply execC_split | apply onPick_split) <;> intro h <;> try simp only [h]))
          | true =>
            rw [hok] at hV
            have hLn := hLn hok
            by_cases he : yl R = s
            · have de : decide (yl R = s) = true := decide_eq_true he
              rw [if_pos ⟨hd0, hdg, rfl, he⟩]
              refine Fn_of' (fn := f16) (by exact func16) c16 r16 (n := 133) (by rfl) (rv := [.tmp 2, .tmp 3, .tmp 4, .tmp 5]) (by rfl) (by simp) ?_
              unfold m16
              try simp only [wQ]
              repeat' (first | (simp only [d60, dl_len, d3, dl_nth, i0, e0, i1, e1, i2, e2, t0, d4, dd0, ddg, de, i3, e3, Option.map_some, Option.isSome, onC_true, ↓wA, ↓wC, wB, frzBE, frzBS, reduceEqDiff, reduceAdd, reduceSub, reduceIte, reduceCtorEq, Nat.reduceBEq, reduceLT]) | (refine call_det (hS) rfl rfl ?_) | (refine callP_det (hS) rfl rfl ?_) | (refine call_det (R0) rfl rfl ?_) | (refine callP_det (R0) rfl rfl ?_) | (refine call_det (R1) rfl rfl ?_) | (refine callP_det (R1) rfl rfl ?_) | (refine call_det (R2) rfl rfl ?_) | (refine callP_det (R2) rfl rfl ?_) | (refine call_det (hL) rfl rfl ?_) | (refine callP_det (hL) rfl rfl ?_) | (refine call_det (hV) rfl rfl ?_) | (refine callP_det (hV) rfl rfl ?_) | (refine call_det (hLn) rfl rfl ?_) | (refine callP_det (hLn) rfl rfl ?_) | (refine call_det (R3) rfl rfl ?_) | (refine callP_det (R3) rfl rfl ?_) | (refine onJ_q ?_) | (with_reducible refine onI_bare ?_ ?_; focus (simp only [InR]; omega)) | (with_reducible refine onC_i ?_ ?_; focus omega) | ((first | apply execG_split | apply execC_split | apply onPick_split) <;> intro h <;> try simp only [h]))
              all_goals (subst hRR; rfl)
            · have de : decide (yl R = s) = false := decide_eq_false he
              rw [if_neg (fun h => he h.2.2.2)]
              refine Fn_of' (fn := f16) (by exact func16) c16 r16 (n := 133) (by rfl) (rv := [.tmp 2, .tmp 3, .tmp 4, .tmp 5]) (by rfl) (by simp) ?_
              unfold m16
              try simp only [wQ]
              repeat' (first | (simp only [d60, dl_len, d3, dl_nth, i0, e0, i1, e1, i2, e2, t0, d4, dd0, ddg, de, i3, e3, Option.map_some, Option.isSome, onC_true, ↓wA, ↓wC, wB, frzBE, frzBS, reduceEqDiff, reduceAdd, reduceSub, reduceIte, reduceCtorEq, Nat.reduceBEq, reduceLT]) | (refine call_det (hS) rfl rfl ?_) | (refine callP_det (hS) rfl rfl ?_) | (refine call_det (R0) rfl rfl ?_) | (refine callP_det (R0) rfl rfl ?_) | (refine call_det (R1) rfl rfl ?_) | (refine callP_det (R1) rfl rfl ?_) | (refine call_det (R2) rfl rfl ?_) | (refine callP_det (R2) rfl rfl ?_) | (refine call_det (hL) rfl rfl ?_) | (refine callP_det (hL) rfl rfl ?_) | (refine call_det (hV) rfl rfl ?_) | (refine callP_det (hV) rfl rfl ?_) | (refine call_det (hLn) rfl rfl ?_) | (refine callP_det (hLn) rfl rfl ?_) | (refine call_det (R3) rfl rfl ?_) | (refine callP_det (R3) rfl rfl ?_) | (refine onJ_q ?_) | (with_reducible refine onI_bare ?_ ?_; focus (simp only [InR]; omega)) | (with_reducible refine onC_i ?_ ?_; focus omega) | ((first | apply execG_split | apply execC_split | apply onPick_split) <;> intro h <;> try simp only [h]))
      · have hw := hw 0 (by rw [hr]; simp only [w3d]; rw [if_neg h3])
        have e3 : decide ((1 : Int) < (w3.length : Int)) = false := decide_eq_false (by omega)
        cases hG : readI (w2.drop (1 : Int).toNat) with
        | none =>
          rw [hG] at R2
          have hspy := spyR_none hw hG
          rw [hspy]
          refine Fn_of' (fn := f16) (by exact func16) c16 r16 (n := 133) (by rfl) (rv := [.tmp 2, .tmp 3, .tmp 4, .tmp 5]) (by rfl) (by simp) ?_
          unfold m16
          try simp only [wQ]
          repeat' (first | (simp only [d60, dl_len, d3, dl_nth, i0, e0, i1, e1, i2, e2, t0, d4, i3, e3, Option.map_some, Option.isSome, onC_true, ↓wA, ↓wC, wB, frzBE, frzBS, reduceEqDiff, reduceAdd, reduceSub, reduceIte, reduceCtorEq, Nat.reduceBEq, reduceLT]) | (refine call_det (hS) rfl rfl ?_) | (refine callP_det (hS) rfl rfl ?_) | (refine call_det (R0) rfl rfl ?_) | (refine callP_det (R0) rfl rfl ?_) | (refine call_det (R1) rfl rfl ?_) | (refine callP_det (R1) rfl rfl ?_) | (refine call_det (R2) rfl rfl ?_) | (refine callP_det (R2) rfl rfl ?_) | (refine call_det (hS) rfl rfl ?_) | (refine callP_det (hS) rfl rfl ?_) | (refine onJ_q ?_) | (with_reducible refine onI_bare ?_ ?_; focus (simp only [InR]; omega)) | (with_reducible refine onC_i ?_ ?_; focus omega) | ((first | apply execG_split | apply execC_split | apply onPick_split) <;> intro h <;> try simp only [h]))
        | some g =>
          have hgN : rdN (w2.drop (1 : Int).toNat) = g := by unfold rdN; rw [hG]; rfl
          rw [hG, hgN] at R2
          rw [hgN] at b2
          simp only [Option.isSome] at R2
          have hspy := spyR_some hw hG
          simp only at hspy
          rw [hspy]
          have hrow : Wd.row ⟨w0, w1, w2, (0 : Int)⟩ g = ⟨rdN (w0.take (w0.length - 1)), rdN (w1.drop (1 : Int).toNat), min 9999 (g - (0 : Int)), (0 : Int), g - (0 : Int) - min 9999 (g - (0 : Int))⟩ := rfl
          have hL := l1Least_fn 9999 (g - (0 : Int))
          have hV := l26One_fn (Wd.row ⟨w0, w1, w2, (0 : Int)⟩ g)
          have hLn := l26Line_fn (Wd.row ⟨w0, w1, w2, (0 : Int)⟩ g)
          rw [hrow] at hV hLn ⊢
          simp only [Row.d] at hV hLn
          generalize rdN (w0.take (w0.length - 1)) = y at *
          generalize rdN (w1.drop (1 : Int).toNat) = m at *
          by_cases hd0 : 0 ≤ (0 : Int)
          case neg =>
            have dd0 : decide ((0 : Int) < 0) = true := decide_eq_true (by omega)
            rw [if_neg (fun h => hd0 h.1)]
            refine Fn_of' (fn := f16) (by exact func16) c16 r16 (n := 133) (by rfl) (rv := [.tmp 2, .tmp 3, .tmp 4, .tmp 5]) (by rfl) (by simp) ?_
            unfold m16
            try simp only [wQ]
            repeat' (first | (simp only [d60, dl_len, d3, dl_nth, i0, e0, i1, e1, i2, e2, t0, d4, dd0, i3, e3, Option.map_some, Option.isSome, onC_true, ↓wA, ↓wC, wB, frzBE, frzBS, reduceEqDiff, reduceAdd, reduceSub, reduceIte, reduceCtorEq, Nat.reduceBEq, reduceLT]) | (refine call_det (hS) rfl rfl ?_) | (refine callP_det (hS) rfl rfl ?_) | (refine call_det (R0) rfl rfl ?_) | (refine callP_det (R0) rfl rfl ?_) | (refine call_det (R1) rfl rfl ?_) | (refine callP_det (R1) rfl rfl ?_) | (refine call_det (R2) rfl rfl ?_) | (refine callP_det (R2) rfl rfl ?_) | (refine call_det (hS) rfl rfl ?_) | (refine callP_det (hS) rfl rfl ?_) | (refine onJ_q ?_) | (with_reducible refine onI_bare ?_ ?_; focus (simp only [InR]; omega)) | (with_reducible refine onC_i ?_ ?_; focus omega) | ((first | apply execG_split | apply execC_split | apply onPick_split) <;> intro h <;> try simp only [h]))
          have dd0 : decide ((0 : Int) < 0) = false := decide_eq_false (by omega)
          by_cases hdg : (0 : Int) ≤ g
          case neg =>
            have ddg : decide (g < (0 : Int)) = true := decide_eq_true (by omega)
            rw [if_neg (fun h => hdg h.2.1)]
            refine Fn_of' (fn := f16) (by exact func16) c16 r16 (n := 133) (by rfl) (rv := [.tmp 2, .tmp 3, .tmp 4, .tmp 5]) (by rfl) (by simp) ?_
            unfold m16
            try simp only [wQ]
            repeat' (first | (simp only [d60, dl_len, d3, dl_nth, i0, e0, i1, e1, i2, e2, t0, d4, dd0, ddg, i3, e3, Option.map_some, Option.isSome, onC_true, ↓wA, ↓wC, wB, frzBE, frzBS, reduceEqDiff, reduceAdd, reduceSub, reduceIte, reduceCtorEq, Nat.reduceBEq, reduceLT]) | (refine call_det (hS) rfl rfl ?_) | (refine callP_det (hS) rfl rfl ?_) | (refine call_det (R0) rfl rfl ?_) | (refine callP_det (R0) rfl rfl ?_) | (refine call_det (R1) rfl rfl ?_) | (refine callP_det (R1) rfl rfl ?_) | (refine call_det (R2) rfl rfl ?_) | (refine callP_det (R2) rfl rfl ?_) | (refine call_det (hS) rfl rfl ?_) | (refine callP_det (hS) rfl rfl ?_) | (refine onJ_q ?_) | (with_reducible refine onI_bare ?_ ?_; focus (simp only [InR]; omega)) | (with_reducible refine onC_i ?_ ?_; focus omega) | ((first | apply execG_split | apply execC_split | apply onPick_split) <;> intro h <;> try simp only [h]))
          have ddg : decide (g < (0 : Int)) = false := decide_eq_false (by omega)
          generalize hRR : (⟨y, m, min 9999 (g - (0 : Int)), (0 : Int), g - (0 : Int) - min 9999 (g - (0 : Int))⟩ : Row) = R at *
          cases hok : R.ok with
          | false =>
            rw [hok] at hV
            rw [if_neg (fun h => by cases h.2.2.1)]
            refine Fn_of' (fn := f16) (by exact func16) c16 r16 (n := 133) (by rfl) (rv := [.tmp 2, .tmp 3, .tmp 4, .tmp 5]) (by rfl) (by simp) ?_
            unfold m16
            try simp only [wQ]
            repeat' (first | (simp only [d60, dl_len, d3, dl_nth, i0, e0, i1, e1, i2, e2, t0, d4, dd0, ddg, i3, e3, Option.map_some, Option.isSome, onC_true, ↓wA, ↓wC, wB, frzBE, frzBS, reduceEqDiff, reduceAdd, reduceSub, reduceIte, reduceCtorEq, Nat.reduceBEq, reduceLT]) | (refine call_det (hS) rfl rfl ?_) | (refine callP_det (hS) rfl rfl ?_) | (refine call_det (R0) rfl rfl ?_) | (refine callP_det (R0) rfl rfl ?_) | (refine call_det (R1) rfl rfl ?_) | (refine callP_det (R1) rfl rfl ?_) | (refine call_det (R2) rfl rfl ?_) | (refine callP_det (R2) rfl rfl ?_) | (refine call_det (hL) rfl rfl ?_) | (refine callP_det (hL) rfl rfl ?_) | (refine call_det (hV) rfl rfl ?_) | (refine callP_det (hV) rfl rfl ?_) | (refine call_det (hS) rfl rfl ?_) | (refine callP_det (hS) rfl rfl ?_) | (refine onJ_q ?_) | (with_reducible refine onI_bare ?_ ?_; focus (simp only [InR]; omega)) | (with_reducible refine onC_i ?_ ?_; focus omega) | ((first | apply execG_split | apply execC_split | apply onPick_split) <;> intro h <;> try simp only [h]))
          | true =>
            rw [hok] at hV
            have hLn := hLn hok
            by_cases he : yl R = s
            · have de : decide (yl R = s) = true := decide_eq_true he
              rw [if_pos ⟨hd0, hdg, rfl, he⟩]
              refine Fn_of' (fn := f16) (by exact func16) c16 r16 (n := 133) (by rfl) (rv := [.tmp 2, .tmp 3, .tmp 4, .tmp 5]) (by rfl) (by simp) ?_
              unfold m16
              try simp only [wQ]
              repeat' (first | (simp only [d60, dl_len, d3, dl_nth, i0, e0, i1, e1, i2, e2, t0, d4, dd0, ddg, de, i3, e3, Option.map_some, Option.isSome, onC_true, ↓wA, ↓wC, wB, frzBE, frzBS, reduceEqDiff, reduceAdd, reduceSub, reduceIte, reduceCtorEq, Nat.reduceBEq, reduceLT]) | (refine call_det (hS) rfl rfl ?_) | (refine callP_det (hS) rfl rfl ?_) | (refine call_det (R0) rfl rfl ?_) | (refine callP_det (R0) rfl rfl ?_) | (refine call_det (R1) rfl rfl ?_) | (refine callP_det (R1) rfl rfl ?_) | (refine call_det (R2) rfl rfl ?_) | (refine callP_det (R2) rfl rfl ?_) | (refine call_det (hL) rfl rfl ?_) | (refine callP_det (hL) rfl rfl ?_) | (refine call_det (hV) rfl rfl ?_) | (refine callP_det (hV) rfl rfl ?_) | (refine call_det (hLn) rfl rfl ?_) | (refine callP_det (hLn) rfl rfl ?_) | (refine call_det (hS) rfl rfl ?_) | (refine callP_det (hS) rfl rfl ?_) | (refine onJ_q ?_) | (with_reducible refine onI_bare ?_ ?_; focus (simp only [InR]; omega)) | (with_reducible refine onC_i ?_ ?_; focus omega) | ((first | apply execG_split | apply execC_split | apply onPick_split) <;> intro h <;> try simp only [h]))
              all_goals (subst hRR; rfl)
            · have de : decide (yl R = s) = false := decide_eq_false he
              rw [if_neg (fun h => he h.2.2.2)]
              refine Fn_of' (fn := f16) (by exact func16) c16 r16 (n := 133) (by rfl) (rv := [.tmp 2, .tmp 3, .tmp 4, .tmp 5]) (by rfl) (by simp) ?_
              unfold m16
              try simp only [wQ]
              repeat' (first | (simp only [d60, dl_len, d3, dl_nth, i0, e0, i1, e1, i2, e2, t0, d4, dd0, ddg, de, i3, e3, Option.map_some, Option.isSome, onC_true, ↓wA, ↓wC, wB, frzBE, frzBS, reduceEqDiff, reduceAdd, reduceSub, reduceIte, reduceCtorEq, Nat.reduceBEq, reduceLT]) | (refine call_det (hS) rfl rfl ?_) | (refine callP_det (hS) rfl rfl ?_) | (refine call_det (R0) rfl rfl ?_) | (refine callP_det (R0) rfl rfl ?_) | (refine call_det (R1) rfl rfl ?_) | (refine callP_det (R1) rfl rfl ?_) | (refine call_det (R2) rfl rfl ?_) | (refine callP_det (R2) rfl rfl ?_) | (refine call_det (hL) rfl rfl ?_) | (refine callP_det (hL) rfl rfl ?_) | (refine call_det (hV) rfl rfl ?_) | (refine callP_det (hV) rfl rfl ?_) | (refine call_det (hLn) rfl rfl ?_) | (refine callP_det (hLn) rfl rfl ?_) | (refine call_det (hS) rfl rfl ?_) | (refine callP_det (hS) rfl rfl ?_) | (refine onJ_q ?_) | (with_reducible refine onI_bare ?_ ?_; focus (simp only [InR]; omega)) | (with_reducible refine onC_i ?_ ?_; focus omega) | ((first | apply execG_split | apply execC_split | apply onPick_split) <;> intro h <;> try simp only [h]))
end Go.Pe.Tryd
