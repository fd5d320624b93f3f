/- Records of a log: what a valid one is, walked; What a valid record is, and a record among the laws' helpers, walked; The lines of a log as plain lists of bytes: what a line is, how it is read, that there is one way alone; Numbers as decimal text: the library's, and the reference's own road to it; The law of EncodeRecord, walked; Logs read, as plain lists: cuts, parts, the records of a text; A text cut, split, verified, walked; The records at the start of a text: the program's road, the reference's; The reference's road through a text of records; What a valid log is; the laws of RecoverLog, IsValidLog, SyncLog; Appeals among the laws' helpers: sizes, copies, equality; walked; Lists of appeals among the laws' helpers: sizes and copies; walked; Copies of lists of appeals, walked; Small tests of appeals, walked; Rising lists, walked; Is an appeal valid? walked; Valid appeals, walked; Valid lists of appeals, walked; Offices among the laws' helpers: sizes, copies, equality; walked; Entries of a ledger: strings.Trim, walked; what an entry is; Valid offices, walked; Is it an office? walked, and the law; Consoles: an office and a log; sizes, copies, equality; are they valid? walked, and the law; Texts of cases (strings.Join, decimals, caseText, l25Text), walked; The text of a console, walked, and the law of FormatConsole; A case of an office by its number, its text, walked; the law of CaseText; Marks on lists of numbers, walked; Marks as text: on lists of texts, walked -/
import Derived.Test.YtcceknofpegakaaGreatDoorPeD
import Derived.Test.YtcceknofpegakaaGreatDoorMc1
import Derived.Test.YtcceknofpegakaaGreatDoorMc2
import Derived.Test.YtcceknofpegakaaGreatDoorMc3
import Derived.Test.YtcceknofpegakaaGreatDoorMc4
import Derived.Test.YtcceknofpegakaaGreatDoorShelf
import Derived.Lib.ItoaNum
import Derived.Lib.IndexMore
import Derived.Lib.ItoaLen
import Derived.Lib.AsciiSet
set_option maxRecDepth 100000
set_option maxHeartbeats 4000000
set_option linter.all false
namespace Go.Pe.Tryz
open Nat (reduceEqDiff reduceAdd reduceSub reduceLT)
open Go.Proofs.Tryz
def within (n a b : Int) : Bool := decide (a ≤ n) && decide (n ≤ b)
theorem within_fn (n a b : Int) : Fn prog 105 [.int .i64 n, .int .i64 a, .int .i64 b] (fun rs => rs = [.bool (within n a b)]) := by
  refine Fn_of' (fn := f105) (by exact func105) c105 r105 (n := 15) (by rfl) (rv := [.tmp 6]) (by rfl) (by simp) ?_
  unfold m105
  try simp only [wQ]
  simp only [↓wA, ↓wC, wB, frzBE, frzBS, reduceEqDiff, reduceAdd, reduceSub, reduceIte, reduceCtorEq, Nat.reduceBEq, reduceLT]
  refine execG_split (fun h => ?_) (fun h => ?_) <;> simp only [h, ↓wA, ↓wC, wB, frzBE, frzBS, reduceEqDiff, reduceAdd, reduceSub, reduceIte, reduceCtorEq, Nat.reduceBEq, reduceLT]
  all_goals simp [within, h]
theorem l1In_fn (n a b : Int) : Fn prog 136 [.int .i64 n, .int .i64 a, .int .i64 b] (fun rs => rs = [.bool (within n a b)]) := by
  refine Fn_of' (fn := f136) (by exact func136) c136 r136 (n := 15) (by rfl) (rv := [.tmp 6]) (by rfl) (by simp) ?_
  unfold m136
  try simp only [wQ]
  simp only [↓wA, ↓wC, wB, frzBE, frzBS, reduceEqDiff, reduceAdd, reduceSub, reduceIte, reduceCtorEq, Nat.reduceBEq, reduceLT]
  refine execG_split (fun h => ?_) (fun h => ?_) <;> simp only [h, ↓wA, ↓wC, wB, frzBE, frzBS, reduceEqDiff, reduceAdd, reduceSub, reduceIte, reduceCtorEq, Nat.reduceBEq, reduceLT]
  all_goals simp [within, h]
def isP (b : UInt8) : Bool := within (b.toNat : Int) 32 126 && !decide ((b.toNat : Int) = 35)
def plain (s : List UInt8) : Bool := s.all isP
theorem maxLen_eq : maxLen = 9223372036854775807 := rfl
def recOK (c r : List UInt8) : Bool := within c.length 1 160 && decide ((r.length : Int) ≤ 200) && plain c && plain r && !c.contains 64
end Go.Pe.Tryz
set_option maxRecDepth 100000
set_option maxHeartbeats 4000000
set_option linter.all false
namespace Go.Pe.Tryz
open Nat (reduceEqDiff reduceAdd reduceSub reduceLT)
open Go.Proofs.Tryz
end Go.Pe.Tryz
set_option maxRecDepth 100000
set_option maxHeartbeats 4000000
set_option linter.all false
namespace Go.Pe.Tryz
open Nat (reduceEqDiff reduceAdd reduceSub reduceLT)
def before (x : UInt8) (s : List UInt8) : List UInt8 := s.takeWhile (· != x)
def after (x : UInt8) (s : List UInt8) : List UInt8 := (s.dropWhile (· != x)).drop 1
theorem split_at {x : UInt8} : ∀ {s : List UInt8}, x ∈ s → s = before x s ++ x :: after x s
  | b :: s, h => by
    by_cases e : b = x
    · subst e; simp [before, after]
    · have hb : (b != x) = true := by simpa [bne_iff_ne] using e
      have hm : x ∈ s := by
        rcases List.mem_cons.1 h with h | h
        · exact absurd h.symm e
        · exact h
      have ih := split_at hm
      unfold before after at *
      simp only [List.takeWhile_cons, List.dropWhile_cons, hb, if_true, List.cons_append]
      rw [← ih]
theorem after_len {x : UInt8} {s : List UInt8} (h : x ∈ s) : (before x s).length + 1 + (after x s).length = s.length := by
  have := congrArg List.length (split_at h)
  simp at this; omega
theorem after_drop {x : UInt8} {s : List UInt8} (h : x ∈ s) : after x s = s.drop ((before x s).length + 1) := by
  have h1 : (before x s ++ x :: after x s).drop ((before x s).length + 1) = after x s := by
    rw [← List.drop_drop, List.drop_left' rfl]; rfl
  rw [← split_at h] at h1
  exact h1.symm
def ckf (h : Int) (b : UInt8) : Int := (41 * h + (b.toNat : Int) + 1) % 999979
def ck (s : List UInt8) : Int := s.foldl ckf 7
def sealL (s : List UInt8) : List UInt8 := s ++ 35 :: Lib.itoa (ck s)
def body (k : Int) (c r : List UInt8) : List UInt8 := Lib.itoa k ++ 32 :: (c ++ 64 :: r)
def line (k : Int) (c r : List UInt8) : List UInt8 := sealL (body k c r)
def rd (k : Int) (L : List UInt8) : Option (List UInt8 × List UInt8) :=
  let rest := (before 35 L).drop ((Lib.itoa k).length + 1)
  if recOK (before 64 rest) (after 64 rest) = true ∧ line k (before 64 rest) (after 64 rest) = L then some (before 64 rest, after 64 rest) else none
def opens : Nat → Int → List UInt8 → List (List UInt8 × List UInt8) × Nat
  | 0, _, _ => ([], 0)
  | n + 1, k, s => if (10 : UInt8) ∈ s then
      match rd k (before 10 s) with
      | some e => (e :: (opens n (k + 1) (after 10 s)).1, (before 10 s).length + 1 + (opens n (k + 1) (after 10 s)).2)
      | none => ([], 0)
    else ([], 0)
end Go.Pe.Tryz
set_option maxRecDepth 100000
set_option maxHeartbeats 4000000
set_option linter.all false
namespace Go.Pe.Tryz
open Nat (reduceEqDiff reduceAdd reduceSub reduceLT)
open Go.Proofs.Tryz Go.Sort
theorem Ext.grow {w : World} (k : Nat) (os : Array Obj) : Ext w (Go.Sort.grow (w.drewN k) os) := by
  refine ⟨rfl, rfl, rfl, ?_, ?_⟩
  · simp [Go.Sort.grow, World.drewN]
  · intro b hb
    simp only [Go.Sort.grow]
    exact Array.getElem?_append_left (xs := w.heap) (ys := os) hb
theorem itoa_fn (n : Int) (h : InR .i64 n) : Fn prog 204 [.int .i64 n] (fun rs => rs = [.str (Lib.itoa n)]) :=
  Fn_lib rfl rfl fun w hF => (Go.Proofs.Tryz.strconv_Itoa n (by simp only [InR] at h; omega) (by simp only [InR] at h; omega) w (tabOf hF)).mono (by
    rintro e w' ⟨rfl, k, os, rfl⟩
    exact ⟨rfl, Ext.grow k os⟩)
theorem decimal_fn (n : Int) (h : InR .i64 n) : Fn prog 146 [.int .i64 n] (fun rs => rs = [.str (Lib.itoa n)]) := by
  refine Fn_of' (fn := f146) (by exact func146) c146 r146 (n := 5) (by rfl) (rv := [.tmp 2]) (by rfl) (by simp) ?_
  unfold m146
  try simp only [wQ]
  repeat' (first | (simp only [↓wA, ↓wC, wB, frzBE, frzBS, reduceEqDiff, reduceAdd, reduceSub, reduceIte, reduceCtorEq, Nat.reduceBEq, reduceLT]) | (refine call_det (itoa_fn n h) rfl rfl ?_) | (refine callP_det (itoa_fn n h) rfl rfl ?_) | ((first | apply execG_split | apply execC_split | apply onPick_split) <;> intro h <;> try simp only [h]))
theorem digit_cut : ∀ d : Fin 10, ((([48, 49, 50, 51, 52, 53, 54, 55, 56, 57] : List UInt8).take (d.val + 1)).drop d.val) = [UInt8.ofNat (48 + d.val)] := by decide
theorem decDigits_small {u : Nat} (h : u < 10) : Lib.decDigits u = [UInt8.ofNat (48 + u)] := by
  rw [Lib.decDigits, dif_pos h]
theorem decDigits_more {u : Nat} (h : ¬ u < 10) : Lib.decDigits u = Lib.decDigits (u / 10) ++ [UInt8.ofNat (48 + u % 10)] := by
  rw [Lib.decDigits, dif_neg h]
theorem cut_digit (d : Nat) (h : d < 10) : ((([48, 49, 50, 51, 52, 53, 54, 55, 56, 57] : List UInt8).take (d + 1)).drop d) = [UInt8.ofNat (48 + d)] := digit_cut ⟨d, h⟩
theorem itoa_nat (u : Nat) : Lib.itoa (u : Int) = Lib.decDigits u := by
  unfold Lib.itoa
  rw [if_neg (by omega)]
  simp
theorem decDigits_le (u : Nat) (h : u ≤ 9223372036854775807) : (Lib.decDigits u).length ≤ 21 := by
  rw [← itoa_nat]
  exact Lib.itoa_length_le (u : Int) (by omega) (by omega)
theorem itoa_le (n : Int) (h : InR .i64 n) : (Lib.itoa n).length ≤ 21 := by
  simp only [InR] at h
  exact Lib.itoa_length_le n (by omega) (by omega)
theorem l1Num_nat : ∀ (u : Nat), u ≤ 9223372036854775807 → Fn prog 147 [.int .i64 (u : Int)] (fun rs => rs = [.str (Lib.decDigits u)]) := by
  intro u
  induction u using Nat.strongRecOn with
  | _ u ih =>
    intro hu
    have h0 : decide ((u : Int) < 0) = false := decide_eq_false (by omega)
    refine Fn_of' (fn := f147) (by exact func147) c147 r147 (n := 25) (by rfl) (rv := [.tmp 2]) (by rfl) (by simp) ?_
    unfold m147
    try simp only [wQ]
    try simp only [h0, ↓wA, ↓wC, wB, frzBE, frzBS, reduceEqDiff, reduceAdd, reduceSub, reduceIte, reduceCtorEq, Nat.reduceBEq, reduceLT]
    by_cases h : u < 10
    · have hd : decide ((u : Int) < 10) = true := decide_eq_true (by omega)
      have hp : (0 : Int) ≤ (u : Int) := by omega
      try simp only [hd, ↓wA, ↓wC, wB, frzBE, frzBS, reduceEqDiff, reduceAdd, reduceSub, reduceIte, reduceCtorEq, Nat.reduceBEq, reduceLT]
      refine onI_bare (by simp only [InR]; omega) ?_
      try simp only [hd, hp, ↓wA, ↓wC, wB, frzBE, frzBS, reduceEqDiff, reduceAdd, reduceSub, reduceIte, reduceCtorEq, Nat.reduceBEq, reduceLT]
      refine onC_i ⟨by omega, by omega⟩ ?_
      rw [show ((u : Int) + 1).toNat = u + 1 by omega, Int.toNat_natCast, cut_digit u h, decDigits_small h]
    · have hd : decide ((u : Int) < 10) = false := decide_eq_false (by omega)
      have hq : ((u : Int)).tdiv 10 = ((u / 10 : Nat) : Int) := by rw [Int.tdiv_eq_ediv_of_nonneg (by omega)]; omega
      have hr : ((u : Int)).tmod 10 = ((u % 10 : Nat) : Int) := by rw [Int.tmod_eq_emod_of_nonneg (by omega)]; omega
      try simp only [hd, hq, hr, ↓wA, ↓wC, wB, frzBE, frzBS, reduceEqDiff, reduceAdd, reduceSub, reduceIte, reduceCtorEq, Nat.reduceBEq, reduceLT]
      refine onC_i (by decide) ?_
      refine onI_bare (by simp only [InR]; omega) ?_
      refine callP_det (ih (u / 10) (by omega) (by omega)) rfl rfl ?_
      try simp only [hr, ↓wA, ↓wC, wB, frzBE, frzBS, reduceEqDiff, reduceAdd, reduceSub, reduceIte, reduceCtorEq, Nat.reduceBEq, reduceLT]
      refine onC_i (by decide) ?_
      refine onC_i (by decide) ?_
      refine onI_bare (by simp only [InR]; omega) ?_
      have hp : (0 : Int) ≤ ((u % 10 : Nat) : Int) := by omega
      try simp only [hp, ↓wA, ↓wC, wB, frzBE, frzBS, reduceEqDiff, reduceAdd, reduceSub, reduceIte, reduceCtorEq, Nat.reduceBEq, reduceLT]
      refine onC_i ⟨by omega, by omega⟩ ?_
      rw [show (((u % 10 : Nat) : Int) + 1).toNat = u % 10 + 1 by omega, Int.toNat_natCast, cut_digit (u % 10) (by omega)]
      try simp only [↓wA, ↓wC, wB, frzBE, frzBS, reduceEqDiff, reduceAdd, reduceSub, reduceIte, reduceCtorEq, Nat.reduceBEq, reduceLT]
      refine onC_i (by have := decDigits_le (u / 10) (by omega); omega) ?_
      rw [decDigits_more h]
theorem l1Num_fn (n : Int) (h0 : 0 ≤ n) (h : InR .i64 n) : Fn prog 147 [.int .i64 n] (fun rs => rs = [.str (Lib.itoa n)]) := by
  obtain ⟨u, rfl⟩ := Int.eq_ofNat_of_zero_le h0
  rw [itoa_nat]
  exact l1Num_nat u (by simp only [InR] at h; omega)
end Go.Pe.Tryz
set_option maxRecDepth 100000
set_option maxHeartbeats 4000000
set_option linter.all false
namespace Go.Pe.Tryz
open Nat (reduceEqDiff reduceAdd reduceSub reduceLT)
open Go.Proofs.Tryz Go.Sort
end Go.Pe.Tryz
set_option maxRecDepth 100000
set_option maxHeartbeats 4000000
set_option linter.all false
namespace Go.Pe.Tryz
open Nat (reduceEqDiff reduceAdd reduceSub reduceLT)
def spl (x : UInt8) (s : List UInt8) : Nat → List (List UInt8) × Nat
  | 0 => ([], 0)
  | i + 1 => match s[i]? with
    | some c => if c = x then ((spl x s i).1 ++ [(s.take i).drop (spl x s i).2], i + 1) else spl x s i
    | none => spl x s i
def parts (x : UInt8) (s : List UInt8) : List (List UInt8) := (spl x s s.length).1 ++ [s.drop (spl x s s.length).2]
theorem opens_step {n : Nat} {k : Int} {s : List UInt8} {e : List UInt8 × List UInt8} (h10 : (10 : UInt8) ∈ s) (h : rd k (before 10 s) = some e) : opens (n + 1) k s = (e :: (opens n (k + 1) (after 10 s)).1, (before 10 s).length + 1 + (opens n (k + 1) (after 10 s)).2) := by
  simp only [opens, h10, if_true, h]
structure Reads (s : List UInt8) (p : List (List UInt8 × List UInt8) × Nat) : Prop where
  len : p.1.length ≤ 60
  pos : p.2 ≤ s.length
  all : opens 60 0 s = (p.1 ++ (opens (60 - p.1.length) p.1.length (s.drop p.2)).1, p.2 + (opens (60 - p.1.length) p.1.length (s.drop p.2)).2)
theorem Reads.start (s : List UInt8) : Reads s ([], 0) := ⟨by simp, by simp, by simp⟩
theorem Reads.next {s p e} (h : Reads s p) (hl : p.1.length < 60) (h10 : (10 : UInt8) ∈ s.drop p.2) (hr : rd (p.1.length : Int) (before 10 (s.drop p.2)) = some e) :
    Reads s (p.1 ++ [e], p.2 + ((before 10 (s.drop p.2)).length + 1)) := by
  have hal := after_len h10
  rw [List.length_drop] at hal
  have hp := h.pos
  refine ⟨by simp; omega, by show p.2 + _ ≤ _; omega, ?_⟩
  have hn : 60 - p.1.length = (60 - (p.1.length + 1)) + 1 := by omega
  have hd : s.drop (p.2 + ((before 10 (s.drop p.2)).length + 1)) = after 10 (s.drop p.2) := by rw [after_drop h10, List.drop_drop]
  rw [h.all, hn, opens_step h10 hr]
  simp only [List.length_append, List.length_singleton, hd]
  refine Prod.ext ?_ ?_
  · simp
  · simp; omega
end Go.Pe.Tryz
set_option maxRecDepth 100000
set_option maxHeartbeats 4000000
set_option linter.all false
namespace Go.Pe.Tryz
open Nat (reduceEqDiff reduceAdd reduceSub reduceLT)
open Go.Proofs.Tryz Go.Sort
end Go.Pe.Tryz
set_option maxRecDepth 100000
set_option maxHeartbeats 4000000
set_option linter.all false
namespace Go.Pe.Tryz
open Nat (reduceEqDiff reduceAdd reduceSub reduceLT)
open Go.Proofs.Tryz Go.Sort
end Go.Pe.Tryz
set_option maxRecDepth 100000
set_option maxHeartbeats 4000000
set_option linter.all false
namespace Go.Pe.Tryz
open Nat (reduceEqDiff reduceAdd reduceSub reduceLT)
open Go.Proofs.Tryz Go.Sort
end Go.Pe.Tryz
set_option maxRecDepth 100000
set_option maxHeartbeats 4000000
set_option linter.all false
namespace Go.Pe.Tryz
open Nat (reduceEqDiff reduceAdd reduceSub reduceLT)
open Go.Proofs.Tryz Go.Sort
def logD (d p : List UInt8) (c : Int) : D := .st (.cons (.str d) (.cons (.str p) (.cons (.int .i64 c) .nil)))
end Go.Pe.Tryz
set_option maxRecDepth 100000
set_option maxHeartbeats 4000000
set_option linter.all false
namespace Go.Pe.Tryz
open Nat (reduceEqDiff reduceAdd reduceSub reduceLT)
open Go.Proofs.Tryz
structure App where
  i : Int
  q : Int
  d : Int
  a : List Int
  h : List Int
  s : Int
def App.d' (x : App) : D := .st (.cons (.int .i64 x.i) (.cons (.int .i64 x.q) (.cons (.int .i64 x.d) (.cons (.sl false 1 (dl iD x.a)) (.cons (.sl false 1 (dl iD x.h)) (.cons (.int .i64 x.s) .nil))))))
def App.ok0 (x : App) : Prop := x.a.length ≤ 1048576 ∧ x.h.length ≤ 1048576
theorem ints_noOwn (v : List Int) : (dl iD v).noOwn = true := dl_noOwn iD_noOwn v
theorem ints_unown (v : List Int) : (dl iD v).unown = dl iD v := dl_unown iD_unown v
theorem szIntS_fn (v : List Int) (n : Int) (h0 : 0 ≤ n) (h1 : n ≤ 1048576) (hm : v.length ≤ maxLen) : Fn prog 228 [.sl false 1 (dl iD v), .int .i64 n] (fun rs => rs = [.int .i64 (if n - v.length < 0 then -1 else n - v.length)]) := by
  have hm' : maxLen = 9223372036854775807 := by rfl
  refine Fn_of' (fn := f228) (by exact func228) c228 r228 (n := 12) (by rfl) (rv := [.tmp 4]) (by rfl) (by simp) ?_
  unfold m228
  try simp only [wQ]
  simp only [dl_len, ↓wA, ↓wC, wB, frzBE, frzBS, reduceEqDiff, reduceAdd, reduceSub, reduceIte, reduceCtorEq, Nat.reduceBEq, reduceLT]
  refine onI_bare (by simp only [InR]; omega) ?_
  simp only [↓wA, ↓wC, wB, frzBE, frzBS, reduceEqDiff, reduceAdd, reduceSub, reduceIte, reduceCtorEq, Nat.reduceBEq, reduceLT]
  refine execC_split (fun h => ?_) (fun h => ?_) <;> simp only [↓wA, ↓wC, wB, frzBE, frzBS, reduceEqDiff, reduceAdd, reduceSub, reduceIte, reduceCtorEq, Nat.reduceBEq, reduceLT]
  · rw [if_pos (by simpa using h)]
  · rw [if_neg (by simpa using h)]
theorem eqIntS_refl (v : List Int) (hlen : v.length ≤ 1048576) : Fn prog 230 [.sl false 1 (dl iD v), .sl false 1 (dl iD v)] (fun rs => rs = [.bool true]) := by
  refine Fn_of' (fn := f230) (by exact func230) c230 r230 (n := 26) (by rfl) (rv := [.tmp 4]) (by rfl) (by simp) ?_
  unfold m230
  try simp only [wQ]
  simp only [↓wA, ↓wC, wB, frzBE, frzBS, reduceEqDiff, reduceAdd, reduceSub, reduceIte, reduceCtorEq, Nat.reduceBEq, reduceLT]
  refine exec_loop (fun i : Nat => ⟨[(0, .d (.sl false 1 (dl iD v))), (1, .d (.sl false 1 (dl iD v))), (5, .d (.int .i64 i))], []⟩)
    (fun i => i ≤ v.length) (fun i => v.length - i) 0 (weak_of [] rfl ⟨⟨rfl, rfl⟩, ⟨rfl, rfl⟩, ⟨rfl, rfl⟩, trivial⟩) (Nat.zero_le _) ?_
  intro i hi
  by_cases hlt : i < v.length
  · obtain ⟨r, hr⟩ := get_lt hlt
    have hd : decide ((i : Int) < (v.length : Int)) = true := decide_eq_true (by omega)
    have h0 : (0 : Int) ≤ (i : Int) := by omega
    repeat' (first | (simp only [dl_len, dl_nth, hd, Int.toNat_natCast, hr, Option.map_some, h0, onC_true, iD, ↓wA, ↓wC, wB, frzBE, frzBS, reduceEqDiff, reduceAdd, reduceSub, reduceIte, reduceCtorEq, Nat.reduceBEq, reduceLT]) | ((first | apply execG_split | apply execC_split | apply onPick_split) <;> intro h <;> try simp only [h]))
    refine onI_bare (by simp only [InR]; omega) ?_
    exact ⟨i + 1, weak_of [] rfl ⟨⟨rfl, rfl⟩, ⟨rfl, rfl⟩, ⟨rfl, rfl⟩, trivial⟩, by omega, by omega⟩
  · have hd : decide ((i : Int) < (v.length : Int)) = false := decide_eq_false (by omega)
    simp only [dl_len, hd, ↓wA, ↓wC, wB, frzBE, frzBS, reduceEqDiff, reduceAdd, reduceSub, reduceIte, reduceCtorEq, Nat.reduceBEq, reduceLT]
theorem toIntS_own (v : List Int) (hlen : v.length ≤ 1048576) : Fn prog 229 [.sl false 1 (dl iD v)] (fun rs => rs = [.sl true 1 (dl iD v)]) := by
  refine Fn_of' (fn := f229) (by exact func229) c229 r229 (n := 22) (by rfl) (rv := [.tmp 2]) (by rfl) (by simp) ?_
  unfold m229
  try simp only [wQ]
  simp only [↓wA, ↓wC, wB, frzBE, frzBS, reduceEqDiff, reduceAdd, reduceSub, reduceIte, reduceCtorEq, Nat.reduceBEq, reduceLT]
  simp only [dl_len, ↓wA, ↓wC, wB, frzBE, frzBS, reduceEqDiff, reduceAdd, reduceSub, reduceIte, reduceCtorEq, Nat.reduceBEq, reduceLT]
  refine onC_i (by omega) ?_
  have hz : ofL (List.replicate (↑v.length : Int).toNat (D.int .i64 0)) = dl iD (v.take 0 ++ List.replicate (v.length - 0) 0) := by
    rw [show D.int .i64 0 = iD 0 from rfl, dl_replicate]; simp
  rw [hz]
  refine exec_loop (fun i : Nat => ⟨[(0, .d (.sl false 1 (dl iD v))), (3, .own 0), (4, .d (.int .i64 i))], [.val (.sl true 1 (dl iD (v.take i ++ List.replicate (v.length - i) 0)))]⟩)
    (fun i => i ≤ v.length) (fun i => v.length - i) 0 (weak_of [] rfl ⟨⟨rfl, rfl⟩, ⟨rfl, rfl⟩, ⟨rfl, rfl⟩, trivial⟩) (Nat.zero_le _) ?_
  intro i hi
  by_cases hlt : i < v.length
  · obtain ⟨r, hr⟩ := get_lt hlt
    have hd : decide ((i : Int) < (v.length : Int)) = true := by simp; omega
    have h0 : (0 : Int) ≤ (i : Int) := by omega
    have hn : (v.take i ++ List.replicate (v.length - i) (0 : Int))[i]? = some 0 := by
      rw [List.getElem?_append_right (by simp; omega), List.length_take, Nat.min_eq_left (by omega), Nat.sub_self, show v.length - i = (v.length - (i + 1)) + 1 by omega]; rfl
    repeat' (first | (simp only [dl_len, dl_nth, hd, h0, Int.toNat_natCast, hr, hn, Option.map_some, onC_true, iD, ↓wA, ↓wC, wB, frzBE, frzBS, reduceEqDiff, reduceAdd, reduceSub, reduceIte, reduceCtorEq, Nat.reduceBEq, reduceLT]) | (refine onI_bare (by simp only [InR]; omega) ?_) | ((first | apply execG_split | apply execC_split | apply onPick_split) <;> intro h <;> try simp only [h]))
    have hfs : (dl iD (v.take i ++ List.replicate (v.length - i) (0 : Int))).setN i (D.int .i64 r) = dl iD (v.take (i + 1) ++ List.replicate (v.length - (i + 1)) 0) := by
      rw [show D.int .i64 r = iD r from rfl, dl_setN, fill_step hr]
    rw [hfs]
    exact ⟨i + 1, weak_of [] rfl ⟨⟨rfl, rfl⟩, ⟨rfl, rfl⟩, ⟨rfl, rfl⟩, trivial⟩, by omega, by omega⟩
  · have hd : decide ((i : Int) < (v.length : Int)) = false := by simp; omega
    have e : i = v.length := by omega
    simp only [dl_len, hd, ↓wA, ↓wC, wB, frzBE, frzBS, reduceEqDiff, reduceAdd, reduceSub, reduceIte, reduceCtorEq, Nat.reduceBEq, reduceLT]
    simp [e]
theorem App.noOwn (x : App) : x.d'.noOwn = true := by simp [App.d', D.noOwn, ints_noOwn]
theorem App.unown (x : App) : x.d'.unown = x.d' := by simp [App.d', D.unown, ints_unown]
end Go.Pe.Tryz
set_option maxRecDepth 100000
set_option maxHeartbeats 4000000
set_option linter.all false
namespace Go.Pe.Tryz
open Nat (reduceEqDiff reduceAdd reduceSub reduceLT)
open Go.Proofs.Tryz
theorem adrop_get {α : Type} {xs : List α} {i : Nat} {a : α} (h : xs[i]? = some a) : xs.drop i = a :: xs.drop (i + 1) := by
  have hi := lt_of_get h
  rw [List.drop_eq_getElem_cons hi]
  rw [List.getElem?_eq_getElem hi] at h
  injection h with h
  rw [h]
end Go.Pe.Tryz
set_option maxRecDepth 100000
set_option maxHeartbeats 4000000
set_option linter.all false
namespace Go.Pe.Tryz
open Nat (reduceEqDiff reduceAdd reduceSub reduceLT)
open Go.Proofs.Tryz
end Go.Pe.Tryz
set_option maxRecDepth 100000
set_option maxHeartbeats 4000000
set_option linter.all false
namespace Go.Pe.Tryz
open Nat (reduceEqDiff reduceAdd reduceSub reduceLT)
open Go.Proofs.Tryz
theorem isDay_fn (n : Int) : Fn prog 115 [.int .i64 n] (fun rs => rs = [.bool (within n 0 20000)]) := by
  refine Fn_of' (fn := f115) (by exact func115) c115 r115 (n := 5) (by rfl) (rv := [.tmp 2]) (by rfl) (by simp) ?_
  unfold m115
  try simp only [wQ]
  repeat' (first | (simp only [↓wA, ↓wC, wB, frzBE, frzBS, reduceEqDiff, reduceAdd, reduceSub, reduceIte, reduceCtorEq, Nat.reduceBEq, reduceLT]) | (refine call_det (within_fn _ _ _) rfl rfl ?_) | (refine callP_det (within_fn _ _ _) rfl rfl ?_) | ((first | apply execG_split | apply execC_split | apply onPick_split) <;> intro h <;> try simp only [h]))
theorem l2Day_fn (n : Int) : Fn prog 122 [.int .i64 n] (fun rs => rs = [.bool (within n 0 20000)]) := by
  refine Fn_of' (fn := f122) (by exact func122) c122 r122 (n := 5) (by rfl) (rv := [.tmp 2]) (by rfl) (by simp) ?_
  unfold m122
  try simp only [wQ]
  repeat' (first | (simp only [↓wA, ↓wC, wB, frzBE, frzBS, reduceEqDiff, reduceAdd, reduceSub, reduceIte, reduceCtorEq, Nat.reduceBEq, reduceLT]) | (refine call_det (l1In_fn _ _ _) rfl rfl ?_) | (refine callP_det (l1In_fn _ _ _) rfl rfl ?_) | ((first | apply execG_split | apply execC_split | apply onPick_split) <;> intro h <;> try simp only [h]))
theorem l1Has_fn (v : List Int) (n : Int) (hlen : v.length ≤ 1048576) : Fn prog 137 [.sl false 1 (dl iD v), .int .i64 n] (fun rs => rs = [.bool (v.contains n)]) := by
  refine Fn_of' (fn := f137) (by exact func137) c137 r137 (n := 18) (by rfl) (rv := [.tmp 4]) (by rfl) (by simp) ?_
  unfold m137
  try simp only [wQ]
  simp only [↓wA, ↓wC, wB, frzBE, frzBS, reduceEqDiff, reduceAdd, reduceSub, reduceIte, reduceCtorEq, Nat.reduceBEq, reduceLT]
  refine exec_loop (fun i : Nat => ⟨[(0, .d (.sl false 1 (dl iD v))), (1, .d (.int .i64 n)), (5, .d (.int .i64 i))], []⟩)
    (fun i => i ≤ v.length ∧ n ∉ v.take i) (fun i => v.length - i) 0 (weak_of [] rfl ⟨⟨rfl, rfl⟩, ⟨rfl, rfl⟩, ⟨rfl, rfl⟩, trivial⟩) ⟨Nat.zero_le _, by simp⟩ ?_
  rintro i ⟨hi, hp⟩
  by_cases hlt : i < v.length
  · obtain ⟨r, hr⟩ := get_lt hlt
    have hd : decide ((i : Int) < (v.length : Int)) = true := decide_eq_true (by omega)
    have h0 : (0 : Int) ≤ (i : Int) := by omega
    by_cases hc : r = n
    · have hm : v.contains n = true := by rw [List.contains_iff_mem]; rw [← hc]; exact List.mem_of_getElem? hr
      have hdc : decide (r = n) = true := decide_eq_true hc
      simp only [dl_len, dl_nth, hd, h0, hr, Option.map_some, Int.toNat_natCast, onC_true, iD, hdc, hm, ↓wA, ↓wC, wB, frzBE, frzBS, reduceEqDiff, reduceAdd, reduceSub, reduceIte, reduceCtorEq, Nat.reduceBEq, reduceLT]
    · have hdc : decide (r = n) = false := decide_eq_false hc
      simp only [dl_len, dl_nth, hd, h0, hr, Option.map_some, Int.toNat_natCast, onC_true, iD, hdc, ↓wA, ↓wC, wB, frzBE, frzBS, reduceEqDiff, reduceAdd, reduceSub, reduceIte, reduceCtorEq, Nat.reduceBEq, reduceLT]
      refine onI_bare (by simp only [InR]; omega) ?_
      refine ⟨i + 1, weak_of [] rfl ⟨⟨rfl, rfl⟩, ⟨rfl, rfl⟩, ⟨rfl, rfl⟩, trivial⟩, ⟨by omega, ?_⟩, by omega⟩
      have hi := lt_of_get hr
      rw [List.take_succ_eq_append_getElem hi]
      have : v[i] = r := by rw [List.getElem?_eq_getElem hi] at hr; injection hr
      rw [this]
      simp only [List.mem_append, List.mem_singleton, not_or]
      exact ⟨hp, fun h => hc h.symm⟩
  · have hd : decide ((i : Int) < (v.length : Int)) = false := decide_eq_false (by omega)
    simp only [dl_len, hd, ↓wA, ↓wC, wB, frzBE, frzBS, reduceEqDiff, reduceAdd, reduceSub, reduceIte, reduceCtorEq, Nat.reduceBEq, reduceLT]
    rw [List.take_of_length_le (by omega)] at hp
    have : v.contains n = false := by
      cases h : v.contains n with
      | false => rfl
      | true => exact absurd (List.contains_iff_mem.1 h) hp
    rw [this]
end Go.Pe.Tryz
set_option maxRecDepth 100000
set_option maxHeartbeats 4000000
set_option linter.all false
namespace Go.Pe.Tryz
open Nat (reduceEqDiff reduceAdd reduceSub reduceLT)
open Go.Proofs.Tryz
def rises (v : List Int) : Bool := (List.range (v.length - 1)).all fun j => decide (v.getD j 0 < v.getD (j + 1) 0)
theorem rises_iff (v : List Int) : rises v = true ↔ ∀ j, j + 1 < v.length → v.getD j 0 < v.getD (j + 1) 0 := by
  simp only [rises, List.all_eq_true, List.mem_range, decide_eq_true_eq]
  exact ⟨fun h j hj => h j (by omega), fun h j hj => h j (by omega)⟩
theorem areRising_fn (v : List Int) (hlen : v.length ≤ 1048576) : Fn prog 187 [.sl false 1 (dl iD v)] (fun rs => rs = [.bool (rises v)]) := by
  refine Fn_of' (fn := f187) (by exact func187) c187 r187 (n := 20) (by rfl) (rv := [.tmp 2]) (by rfl) (by simp) ?_
  unfold m187
  try simp only [wQ]
  simp only [↓wA, ↓wC, wB, frzBE, frzBS, reduceEqDiff, reduceAdd, reduceSub, reduceIte, reduceCtorEq, Nat.reduceBEq, reduceLT]
  refine exec_loop (fun i : Nat => ⟨[(0, .d (.sl false 1 (dl iD v))), (3, .d (.int .i64 (i + 1 : Nat)))], []⟩)
    (fun i => i ≤ v.length ∧ ∀ j, j + 1 < i + 1 → j + 1 < v.length → v.getD j 0 < v.getD (j + 1) 0) (fun i => v.length - i) 0 (weak_of [] rfl ⟨⟨rfl, rfl⟩, ⟨rfl, rfl⟩, trivial⟩) ⟨Nat.zero_le _, fun j h => by omega⟩ ?_
  rintro i ⟨hi, hp⟩
  by_cases hlt : i + 1 < v.length
  · obtain ⟨a, ha⟩ := get_lt (show i < v.length by omega)
    obtain ⟨b, hb⟩ := get_lt hlt
    have hd : decide (((i + 1 : Nat) : Int) < (v.length : Int)) = true := decide_eq_true (by omega)
    have h0 : (0 : Int) ≤ ((i + 1 : Nat) : Int) := by omega
    have h1 : (0 : Int) ≤ ((i + 1 : Nat) : Int) - 1 := by omega
    have ha' : v[(((i + 1 : Nat) : Int) - 1).toNat]? = some a := by rw [show (((i + 1 : Nat) : Int) - 1).toNat = i by omega]; exact ha
    have ga : v.getD i 0 = a := by simp [List.getD, ha]
    have gb : v.getD (i + 1) 0 = b := by simp [List.getD, hb]
    repeat' (first | (simp only [dl_len, dl_nth, hd, h0, h1, ha', hb, Int.toNat_natCast, Option.map_some, onC_true, iD, ↓wA, ↓wC, wB, frzBE, frzBS, reduceEqDiff, reduceAdd, reduceSub, reduceIte, reduceCtorEq, Nat.reduceBEq, reduceLT]) | (refine onI_bare (by simp only [InR]; omega) ?_) | ((first | apply execG_split | apply execC_split | apply onPick_split) <;> intro h <;> try simp only [h]))
    · have hr : rises v = false := by
        cases hr : rises v with
        | false => rfl
        | true =>
          have := (rises_iff v).1 hr i hlt
          rw [ga, gb] at this
          simp at h; omega
      rw [hr]
    · refine ⟨i + 1, weak_of [] rfl ⟨⟨rfl, rfl⟩, ⟨rfl, rfl⟩, trivial⟩, ⟨by omega, fun j hj hj2 => ?_⟩, by omega⟩
      by_cases e : j = i
      · subst e
        rw [ga, gb]
        simp at h; omega
      · exact hp j (by omega) hj2
  · have hd : decide (((i + 1 : Nat) : Int) < (v.length : Int)) = false := decide_eq_false (by omega)
    have hr : rises v = true := (rises_iff v).2 fun j hj => hp j (by omega) hj
    simp only [dl_len, hd, ↓wA, ↓wC, wB, frzBE, frzBS, reduceEqDiff, reduceAdd, reduceSub, reduceIte, reduceCtorEq, Nat.reduceBEq, reduceLT]
    rw [hr]
end Go.Pe.Tryz
set_option maxRecDepth 100000
set_option maxHeartbeats 4000000
set_option linter.all false
namespace Go.Pe.Tryz
open Nat (reduceEqDiff reduceAdd reduceSub reduceLT)
open Go.Proofs.Tryz
theorem indexFuncI_fn (p : Int → Bool) (g : Nat) (c : D) (xs : List Int) (hc : c.caps = true) (he : enterOK prog.P g = true) (hlen : xs.length ≤ 1048576) (hp : ∀ x ∈ xs, Fn prog g (iD x :: c.list) (fun rs => rs = [.bool (p x)])) :
    Fn prog 227 [.sl false 1 (dl iD xs), .clo g c] (fun rs => rs = [.int .i64 (idxOf p xs)]) := by
  refine Fn_of' (fn := f227) (by exact func227) c227 r227 (n := 19) (by rfl) (rv := [.tmp 4]) (by rfl) (by simp) ?_
  unfold m227
  try simp only [wQ]
  simp only [dl_len, ↓wA, ↓wC, wB, frzBE, frzBS, reduceEqDiff, reduceAdd, reduceSub, reduceIte, reduceCtorEq, Nat.reduceBEq, reduceLT]
  refine exec_range xs.length (fun i : Nat => ⟨[(0, .d (.sl false 1 (dl iD xs))), (1, .d (.clo g c)), (7, .d (.int .i64 xs.length)), (8, .d (.int .i64 i))], []⟩) (fun i => ∀ j r, j < i → xs[j]? = some r → p r = false) (weak_of _ rfl ⟨⟨rfl, rfl⟩, ⟨rfl, rfl⟩, ⟨rfl, rfl⟩, ⟨rfl, rfl⟩, trivial⟩) (fun j r hj => by omega) ?_ ?_
  · intro i hlt hinv hd h0
    obtain ⟨r, hr⟩ := get_lt hlt
    have hcl := hp r (List.mem_of_getElem? hr)
    simp only [hd, h0, dl_nth, Int.toNat_natCast, hr, Option.map_some, onC_true, ↓rd_iD, ↓wA, ↓wC, wB, frzBE, frzBS, reduceEqDiff, reduceAdd, reduceSub, reduceIte, reduceCtorEq, Nat.reduceBEq, reduceLT]
    refine callW_det (ds := [iD r]) hcl he hc (by simp [argsD, argD, valOf, iD]) rfl ?_
    cases hpr : p r with
    | true =>
      simp only [↓wA, ↓wC, wB, frzBE, frzBS, reduceEqDiff, reduceAdd, reduceSub, reduceIte, reduceCtorEq, Nat.reduceBEq, reduceLT]
      rw [idxOf_hit hr hpr hinv]
    | false =>
      simp only [↓wA, ↓wC, wB, frzBE, frzBS, reduceEqDiff, reduceAdd, reduceSub, reduceIte, reduceCtorEq, Nat.reduceBEq, reduceLT]
      refine onI_bare (by simp only [InR]; omega) ?_
      refine next_range (weak_of _ rfl ⟨⟨rfl, rfl⟩, ⟨rfl, rfl⟩, ⟨rfl, rfl⟩, ⟨rfl, rfl⟩, trivial⟩) hlt fun j s hj hs => ?_
      by_cases e : j = i
      · subst e; rw [hr] at hs; injection hs with hs; rw [← hs]; exact hpr
      · exact hinv j s (by omega) hs
  · intro hinv hd
    simp only [hd, ↓wA, ↓wC, wB, frzBE, frzBS, reduceEqDiff, reduceAdd, reduceSub, reduceIte, reduceCtorEq, Nat.reduceBEq, reduceLT]
    rw [idxOf_none fun j r hj => hinv j r (lt_of_get hj) hj]
theorem containsFuncI_fn (p : Int → Bool) (g : Nat) (c : D) (xs : List Int) (hc : c.caps = true) (he : enterOK prog.P g = true) (hlen : xs.length ≤ 1048576) (hp : ∀ x ∈ xs, Fn prog g (iD x :: c.list) (fun rs => rs = [.bool (p x)])) :
    Fn prog 188 [.sl false 1 (dl iD xs), .clo g c] (fun rs => rs = [.bool (xs.any p)]) := by
  refine Fn_of' (fn := f188) (by exact func188) c188 r188 (n := 9) (by rfl) (rv := [.tmp 4]) (by rfl) (by simp) ?_
  unfold m188
  try simp only [wQ]
  simp only [↓wA, ↓wC, wB, frzBE, frzBS, reduceEqDiff, reduceAdd, reduceSub, reduceIte, reduceCtorEq, Nat.reduceBEq, reduceLT]
  refine call_det (indexFuncI_fn p g c xs hc he hlen hp) rfl rfl ?_
  simp only [idxOf_any, ↓wA, ↓wC, wB, frzBE, frzBS, reduceEqDiff, reduceAdd, reduceSub, reduceIte, reduceCtorEq, Nat.reduceBEq, reduceLT]
theorem indexI_fn (xs : List Int) (v : Int) (hlen : xs.length ≤ 1048576) :
    Fn prog 196 [.sl false 1 (dl iD xs), iD v] (fun rs => rs = [.int .i64 (idxOf (fun x => decide (v = x)) xs)]) := by
  refine Fn_of' (fn := f196) (by exact func196) c196 r196 (n := 19) (by rfl) (rv := [.tmp 4]) (by rfl) (by simp) ?_
  unfold m196
  try simp only [wQ]
  simp only [dl_len, iD, ↓wA, ↓wC, wB, frzBE, frzBS, reduceEqDiff, reduceAdd, reduceSub, reduceIte, reduceCtorEq, Nat.reduceBEq, reduceLT]
  refine exec_range xs.length (fun i : Nat => ⟨[(0, .d (.sl false 1 (dl iD xs))), (1, .d (iD v)), (7, .d (.int .i64 xs.length)), (8, .d (.int .i64 i))], []⟩) (fun i => ∀ j r, j < i → xs[j]? = some r → decide (v = r) = false) (weak_of _ rfl ⟨⟨rfl, rfl⟩, ⟨rfl, rfl⟩, ⟨rfl, rfl⟩, ⟨rfl, rfl⟩, trivial⟩) (fun j r hj => by omega) ?_ ?_
  · intro i hlt hinv hd h0
    obtain ⟨r, hr⟩ := get_lt hlt
    simp only [hd, h0, dl_nth, Int.toNat_natCast, hr, Option.map_some, onC_true, ↓rd_iD, iD, ↓wA, ↓wC, wB, frzBE, frzBS, reduceEqDiff, reduceAdd, reduceSub, reduceIte, reduceCtorEq, Nat.reduceBEq, reduceLT]
    by_cases hpr : v = r
    · simp only [decide_eq_true hpr, ↓wA, ↓wC, wB, frzBE, frzBS, reduceEqDiff, reduceAdd, reduceSub, reduceIte, reduceCtorEq, Nat.reduceBEq, reduceLT]
      rw [idxOf_hit hr (decide_eq_true hpr) hinv]
    · simp only [decide_eq_false hpr, ↓wA, ↓wC, wB, frzBE, frzBS, reduceEqDiff, reduceAdd, reduceSub, reduceIte, reduceCtorEq, Nat.reduceBEq, reduceLT]
      refine onI_bare (by simp only [InR]; omega) ?_
      refine next_range (weak_of _ rfl ⟨⟨rfl, rfl⟩, ⟨rfl, rfl⟩, ⟨rfl, rfl⟩, ⟨rfl, rfl⟩, trivial⟩) hlt fun j s hj hs => ?_
      by_cases e : j = i
      · subst e; rw [hr] at hs; injection hs with hs; rw [← hs]; exact decide_eq_false hpr
      · exact hinv j s (by omega) hs
  · intro hinv hd
    simp only [hd, ↓wA, ↓wC, wB, frzBE, frzBS, reduceEqDiff, reduceAdd, reduceSub, reduceIte, reduceCtorEq, Nat.reduceBEq, reduceLT]
    rw [idxOf_none fun j r hj => hinv j r (lt_of_get hj) hj]
theorem containsI_fn (xs : List Int) (v : Int) (hlen : xs.length ≤ 1048576) : Fn prog 135 [.sl false 1 (dl iD xs), .int .i64 v] (fun rs => rs = [.bool (xs.contains v)]) := by
  refine Fn_of' (fn := f135) (by exact func135) c135 r135 (n := 9) (by rfl) (rv := [.tmp 4]) (by rfl) (by simp) ?_
  unfold m135
  try simp only [wQ]
  simp only [↓wA, ↓wC, wB, frzBE, frzBS, reduceEqDiff, reduceAdd, reduceSub, reduceIte, reduceCtorEq, Nat.reduceBEq, reduceLT]
  refine call_det (indexI_fn xs v hlen) rfl rfl ?_
  simp only [idxOf_any, any_eq_contains, ↓wA, ↓wC, wB, frzBE, frzBS, reduceEqDiff, reduceAdd, reduceSub, reduceIte, reduceCtorEq, Nat.reduceBEq, reduceLT]
end Go.Pe.Tryz
set_option maxRecDepth 100000
set_option maxHeartbeats 4000000
set_option linter.all false
namespace Go.Pe.Tryz
open Nat (reduceEqDiff reduceAdd reduceSub reduceLT)
open Go.Proofs.Tryz
theorem any_not {α : Type} (p : α → Bool) (xs : List α) : xs.any (fun x => !p x) = !xs.all p := by
  induction xs with
  | nil => rfl
  | cons a v ih => simp [List.any_cons, List.all_cons, ih]
theorem l1Rising_fn (v : List Int) (a b : Int) (hlen : v.length ≤ 1048576) : Fn prog 224 [.sl false 1 (dl iD v), .int .i64 a, .int .i64 b] (fun rs => rs = [.bool (v.all (fun n => within n a b) && rises v)]) := by
  refine Fn_of' (fn := f224) (by exact func224) c224 r224 (n := 38) (by rfl) (rv := [.tmp 6]) (by rfl) (by simp) ?_
  unfold m224
  try simp only [wQ]
  simp only [↓wA, ↓wC, wB, frzBE, frzBS, reduceEqDiff, reduceAdd, reduceSub, reduceIte, reduceCtorEq, Nat.reduceBEq, reduceLT]
  refine exec_range v.length (fun i : Nat => ⟨[(0, .d (.sl false 1 (dl iD v))), (1, .d (.int .i64 a)), (2, .d (.int .i64 b)), (7, .d (.int .i64 i))], []⟩) (fun i => (∀ j r, j < i → v[j]? = some r → within r a b = true) ∧ ∀ j, j + 1 < i → v.getD j 0 < v.getD (j + 1) 0) (weak_of _ rfl ⟨⟨rfl, rfl⟩, ⟨rfl, rfl⟩, ⟨rfl, rfl⟩, ⟨rfl, rfl⟩, trivial⟩) ⟨fun j r hj => by omega, fun j hj => by omega⟩ ?_ ?_
  · rintro i hlt ⟨hin, hri⟩ hd h0
    obtain ⟨r, hr⟩ := get_lt hlt
    have gr : v.getD i 0 = r := by simp [List.getD, hr]
    have hc := l1In_fn r a b
    cases hw : within r a b with
    | false =>
      have hres : (v.all (fun n => within n a b) && rises v) = false := by
        have : v.all (fun n => within n a b) = false := List.all_eq_false.2 ⟨r, List.mem_of_getElem? hr, by simp [hw]⟩
        rw [this]; rfl
      rw [hw] at hc
      repeat' (first | (simp only [dl_len, dl_nth, hd, h0, Int.toNat_natCast, hr, Option.map_some, ↓rd_iD, onC_true, ↓wA, ↓wC, wB, frzBE, frzBS, reduceEqDiff, reduceAdd, reduceSub, reduceIte, reduceCtorEq, Nat.reduceBEq, reduceLT]) | (refine call_det (hc) rfl rfl ?_) | (refine callP_det (hc) rfl rfl ?_) | ((first | apply execG_split | apply execC_split | apply onPick_split) <;> intro h <;> try simp only [h]))
      all_goals rw [hres]
    | true =>
      rw [hw] at hc
      have hin' : ∀ j s, j < i + 1 → v[j]? = some s → within s a b = true := fun j s hj hs => by
        by_cases e : j = i
        · subst e; rw [hr] at hs; injection hs with hs; rw [← hs]; exact hw
        · exact hin j s (by omega) hs
      cases i with
      | zero =>
        have hg : decide ((0 : Int) < ((0 : Nat) : Int)) = false := by decide
        repeat' (first | (simp only [dl_len, dl_nth, hd, h0, Int.toNat_natCast, hr, Option.map_some, ↓rd_iD, onC_true, hg, ↓wA, ↓wC, wB, frzBE, frzBS, reduceEqDiff, reduceAdd, reduceSub, reduceIte, reduceCtorEq, Nat.reduceBEq, reduceLT]) | (refine call_det (hc) rfl rfl ?_) | (refine callP_det (hc) rfl rfl ?_) | (refine onI_bare (by simp only [InR]; omega) ?_) | ((first | apply execG_split | apply execC_split | apply onPick_split) <;> intro h <;> try simp only [h]))
        all_goals exact next_range (weak_of _ rfl ⟨⟨rfl, rfl⟩, ⟨rfl, rfl⟩, ⟨rfl, rfl⟩, ⟨rfl, rfl⟩, trivial⟩) hlt ⟨hin', fun j hj => by omega⟩
      | succ k =>
        obtain ⟨y, hy⟩ := get_lt (show k < v.length by omega)
        have gy : v.getD k 0 = y := by simp [List.getD, hy]
        have hg : decide ((0 : Int) < ((k + 1 : Nat) : Int)) = true := decide_eq_true (by omega)
        have h1 : (0 : Int) ≤ ((k + 1 : Nat) : Int) - 1 := by omega
        have hy' : v[(((k + 1 : Nat) : Int) - 1).toNat]? = some y := by rw [show (((k + 1 : Nat) : Int) - 1).toNat = k by omega]; exact hy
        by_cases hl : y < r
        · have hq : decide (r ≤ y) = false := decide_eq_false (by omega)
          repeat' (first | (simp only [dl_len, dl_nth, hd, h0, h1, Int.toNat_natCast, hr, hy', Option.map_some, ↓rd_iD, onC_true, hg, hq, ↓wA, ↓wC, wB, frzBE, frzBS, reduceEqDiff, reduceAdd, reduceSub, reduceIte, reduceCtorEq, Nat.reduceBEq, reduceLT]) | (refine call_det (hc) rfl rfl ?_) | (refine callP_det (hc) rfl rfl ?_) | (refine onI_bare (by simp only [InR]; omega) ?_) | ((first | apply execG_split | apply execC_split | apply onPick_split) <;> intro h <;> try simp only [h]))
          all_goals refine next_range (weak_of _ rfl ⟨⟨rfl, rfl⟩, ⟨rfl, rfl⟩, ⟨rfl, rfl⟩, ⟨rfl, rfl⟩, trivial⟩) hlt ⟨hin', fun j hj => ?_⟩
          by_cases e : j = k
          · subst e; rw [gy, gr]; exact hl
          · exact hri j (by omega)
        · have hq : decide (r ≤ y) = true := decide_eq_true (by omega)
          have hres : (v.all (fun n => within n a b) && rises v) = false := by
            have : rises v = false := by
              cases h : rises v with
              | false => rfl
              | true =>
                have := (rises_iff v).1 h k hlt
                rw [gy, gr] at this; omega
            rw [this, Bool.and_false]
          repeat' (first | (simp only [dl_len, dl_nth, hd, h0, h1, Int.toNat_natCast, hr, hy', Option.map_some, ↓rd_iD, onC_true, hg, hq, ↓wA, ↓wC, wB, frzBE, frzBS, reduceEqDiff, reduceAdd, reduceSub, reduceIte, reduceCtorEq, Nat.reduceBEq, reduceLT]) | (refine call_det (hc) rfl rfl ?_) | (refine callP_det (hc) rfl rfl ?_) | (refine onI_bare (by simp only [InR]; omega) ?_) | ((first | apply execG_split | apply execC_split | apply onPick_split) <;> intro h <;> try simp only [h]))
          all_goals rw [hres]
  · rintro ⟨hin, hri⟩ hd
    have hres : (v.all (fun n => within n a b) && rises v) = true := by
      rw [Bool.and_eq_true]
      refine ⟨List.all_eq_true.2 fun n hn => ?_, (rises_iff v).2 fun j hj => hri j hj⟩
      obtain ⟨j, hj⟩ := List.getElem?_of_mem hn
      exact hin j n (lt_of_get hj) hj
    simp only [dl_len, hd, ↓wA, ↓wC, wB, frzBE, frzBS, reduceEqDiff, reduceAdd, reduceSub, reduceIte, reduceCtorEq, Nat.reduceBEq, reduceLT]
    rw [hres]
end Go.Pe.Tryz
set_option maxRecDepth 100000
set_option maxHeartbeats 4000000
set_option linter.all false
namespace Go.Pe.Tryz
open Nat (reduceEqDiff reduceAdd reduceSub reduceLT)
open Go.Proofs.Tryz
end Go.Pe.Tryz
set_option maxRecDepth 100000
set_option maxHeartbeats 4000000
set_option linter.all false
namespace Go.Pe.Tryz
open Nat (reduceEqDiff reduceAdd reduceSub reduceLT)
open Go.Proofs.Tryz
structure Cs where
  i : Int
  a : Int
  d : Int
  h : List Int
def Cs.p (x : Cs) (dh : D) : D := .st (.cons (.int .i64 x.i) (.cons (.int .i64 x.a) (.cons (.int .i64 x.d) (.cons dh .nil))))
def Cs.s (x : Cs) : D := x.p (.sl false 1 (dl iD x.h))
def Cs.o (x : Cs) : D := x.p (.sl true 1 (dl iD x.h))
def Cs.ok0 (x : Cs) : Prop := x.h.length ≤ 1048576
structure Off where
  day : Int
  cs : List Cs
  kept : Int
  moved : Int
  led : List (List UInt8)
def offP (o : Off) (dc dd : D) : D := .st (.cons (.int .i64 o.day) (.cons dc (.cons (.int .i64 o.kept) (.cons (.int .i64 o.moved) (.cons dd .nil)))))
def Off.s (o : Off) : D := offP o (.sl false 4 (dl Cs.s o.cs)) (.sl false 1 (dl D.str o.led))
def Off.o (o : Off) : D := offP o (.sl true 4 (dl Cs.o o.cs)) (.sl true 1 (dl D.str o.led))
def strsOk (L : List (List UInt8)) : Prop := L.length ≤ 1048576 ∧ ∀ s ∈ L, s.length ≤ 1048576
def casesOk (xs : List Cs) : Prop := xs.length ≤ 1048576 ∧ ∀ x ∈ xs, x.ok0
def Off.ok0 (o : Off) : Prop := casesOk o.cs ∧ strsOk o.led
theorem strs_noOwn (L : List (List UInt8)) : (dl D.str L).noOwn = true := dl_noOwn (fun _ => rfl) L
theorem strs_unown (L : List (List UInt8)) : (dl D.str L).unown = dl D.str L := dl_unown (fun _ => rfl) L
theorem strs_allOwn (L : List (List UInt8)) : (dl D.str L).allOwn = true := dl_allOwn (fun _ => rfl) L
theorem Cs.s_noOwn (x : Cs) : x.s.noOwn = true := by simp [Cs.s, Cs.p, D.noOwn, ints_noOwn]
theorem Cs.s_unown (x : Cs) : x.s.unown = x.s := by simp [Cs.s, Cs.p, D.unown, ints_unown]
theorem Cs.o_unown (x : Cs) : x.o.unown = x.s := by simp [Cs.o, Cs.s, Cs.p, D.unown, ints_unown]
theorem Cs.o_own (x : Cs) : x.o.allOwn = true := by simp [Cs.o, Cs.p, D.allOwn, dl_allOwn iD_allOwn]
theorem Cs.o_noOwn (x : Cs) : x.o.noOwn = false := by simp [Cs.o, Cs.p, D.noOwn]
theorem Cs.s_isV (x : Cs) : x.s.isV = true := rfl
theorem Cs.s_size (x : Cs) : x.s.size = 4 := rfl
theorem Cs.o_isV (x : Cs) : x.o.isV = true := rfl
theorem Cs.o_size (x : Cs) : x.o.size = 4 := rfl
theorem css_noOwn (xs : List Cs) : (dl Cs.s xs).noOwn = true := dl_noOwn Cs.s_noOwn xs
theorem css_unown (xs : List Cs) : (dl Cs.s xs).unown = dl Cs.s xs := dl_unown Cs.s_unown xs
theorem cso_unown : ∀ xs : List Cs, (dl Cs.o xs).unown = dl Cs.s xs
  | [] => rfl
  | x :: xs => by
    have := cso_unown xs
    simp only [dl, List.map_cons, ofL, D.unown, Cs.o_unown] at this ⊢
    rw [this]
theorem cso_own (xs : List Cs) : (dl Cs.o xs).allOwn = true := dl_allOwn Cs.o_own xs
theorem Off.s_noOwn (o : Off) : o.s.noOwn = true := by simp [Off.s, offP, D.noOwn, css_noOwn, strs_noOwn]
theorem Off.s_unown (o : Off) : o.s.unown = o.s := by simp [Off.s, offP, D.unown, css_unown, strs_unown]
theorem Off.o_unown (o : Off) : o.o.unown = o.s := by simp [Off.s, Off.o, offP, D.unown, cso_unown, strs_unown]
theorem Off.o_own (o : Off) : o.o.allOwn = true := by simp [Off.o, offP, D.allOwn, cso_own, strs_allOwn]
theorem rd_cs {o : List Ob} {K : SV → Prop} {x : Cs} : stepRd o (some 4) x.s K = K (.d x.s) := by simp [Cs.s, Cs.p, stepRd, D.size, D.noOwn, ints_noOwn]
theorem rd_off {o : List Ob} {K : SV → Prop} {x : Off} : stepRd o (some 5) x.s K = K (.d x.s) := by simp [Off.s, offP, stepRd, D.size, D.noOwn, css_noOwn, strs_noOwn]
theorem take_get {α : Type} {xs : List α} {i : Nat} {r : α} (hr : xs[i]? = some r) : xs.take (i + 1) = xs.take i ++ [r] := by
  have hi := lt_of_get hr
  rw [List.take_succ_eq_append_getElem hi]
  rw [List.getElem?_eq_getElem hi] at hr
  injection hr with hr
  rw [hr]
theorem Fn_mono {P : PG} {f : FuncId} {ds : List D} {R S : List D → Prop} (h : Fn P f ds R) (hs : ∀ rs, R rs → S rs) : Fn P f ds S := by
  intro M vs w h1 h2 h3
  refine (h M vs w h1 h2 h3).mono ?_
  rintro e w' ⟨rs, us, fp, e1, e2, e3⟩
  exact ⟨rs, us, fp, e1, hs rs e2, e3⟩
theorem szI_fn (v : List Int) (n : Int) (h0 : 0 ≤ n) (h1 : n ≤ 1048576) (hm : v.length ≤ maxLen) : Fn prog 228 [.sl false 1 (dl iD v), .int .i64 n] (fun rs => ∃ m : Int, rs = [.int .i64 m] ∧ -1 ≤ m ∧ m ≤ n ∧ (0 ≤ m → v.length ≤ 1048576)) :=
  Fn_mono (szIntS_fn v n h0 h1 hm) fun rs hr => by
    subst hr
    refine ⟨_, rfl, ?_, ?_, ?_⟩ <;> split <;> omega
theorem szCase_fn (x : Cs) (n : Int) (h0 : 0 ≤ n) (h1 : n ≤ 1048576) (hm : x.h.length ≤ maxLen) : Fn prog 191 [x.s, .int .i64 n] (fun rs => ∃ m : Int, rs = [.int .i64 m] ∧ -1 ≤ m ∧ m ≤ n ∧ (0 ≤ m → x.ok0)) := by
  refine Fn_of' (fn := f191) (by exact func191) c191 r191 (n := 12) (by rfl) (rv := [.tmp 4]) (by rfl) (by simp) ?_
  unfold m191
  try simp only [wQ]
  simp only [Cs.s, Cs.p]
  repeat' (first | (simp only [ints_noOwn, onC_true, ↓wA, ↓wC, wB, frzBE, frzBS, reduceEqDiff, reduceAdd, reduceSub, reduceIte, reduceCtorEq, Nat.reduceBEq, reduceLT, sz35, sz140]) | ((first | apply execG_split | apply execC_split | apply onPick_split) <;> intro h <;> try simp only [h]))
  refine call_rel (szI_fn x.h n h0 h1 hm) rfl fun rs h => ?_
  obtain ⟨m, rfl, e1, e2, e3⟩ := h
  refine ⟨.inl rfl, ?_⟩
  cases hd : decide (m < 0) with
  | true =>
    repeat' (first | (simp only [hd, ↓wA, ↓wC, wB, frzBE, frzBS, reduceEqDiff, reduceAdd, reduceSub, reduceIte, reduceCtorEq, Nat.reduceBEq, reduceLT, sz35, sz140]) | ((first | apply execG_split | apply execC_split | apply onPick_split) <;> intro h <;> try simp only [h]))
    exact ⟨-1, rfl, by omega, by omega, by omega⟩
  | false =>
    have := of_decide_eq_false hd
    repeat' (first | (simp only [hd, ↓wA, ↓wC, wB, frzBE, frzBS, reduceEqDiff, reduceAdd, reduceSub, reduceIte, reduceCtorEq, Nat.reduceBEq, reduceLT, sz35, sz140]) | ((first | apply execG_split | apply execC_split | apply onPick_split) <;> intro h <;> try simp only [h]))
    exact ⟨m, rfl, e1, e2, fun h => e3 h⟩
theorem szCaseS_fn (xs : List Cs) (n : Int) (h0 : 0 ≤ n) (h1 : n ≤ 1048576) (hlen : xs.length ≤ maxLen) (hx : ∀ x ∈ xs, x.h.length ≤ maxLen) : Fn prog 123 [.sl false 4 (dl Cs.s xs), .int .i64 n] (fun rs => ∃ m : Int, rs = [.int .i64 m] ∧ -1 ≤ m ∧ m ≤ n ∧ (0 ≤ m → casesOk xs)) := by
  have hm' : maxLen = 9223372036854775807 := by rfl
  refine Fn_of' (fn := f123) (by exact func123) c123 r123 (n := 27) (by rfl) (rv := [.tmp 4]) (by rfl) (by simp) ?_
  unfold m123
  try simp only [wQ]
  simp only [dl_len, ↓wA, ↓wC, wB, frzBE, frzBS, reduceEqDiff, reduceAdd, reduceSub, reduceIte, reduceCtorEq, Nat.reduceBEq, reduceLT, sz35, sz140]
  refine onI_bare (by simp only [InR]; omega) ?_
  cases hd : decide (n - (xs.length : Int) < 0) with
  | true =>
    repeat' (first | (simp only [hd, ↓wA, ↓wC, wB, frzBE, frzBS, reduceEqDiff, reduceAdd, reduceSub, reduceIte, reduceCtorEq, Nat.reduceBEq, reduceLT, sz35, sz140]) | ((first | apply execG_split | apply execC_split | apply onPick_split) <;> intro h <;> try simp only [h]))
    exact ⟨-1, rfl, by omega, by omega, by omega⟩
  | false =>
    have hd' := of_decide_eq_false hd
    repeat' (first | (simp only [hd, ↓wA, ↓wC, wB, frzBE, frzBS, reduceEqDiff, reduceAdd, reduceSub, reduceIte, reduceCtorEq, Nat.reduceBEq, reduceLT, sz35, sz140]) | ((first | apply execG_split | apply execC_split | apply onPick_split) <;> intro h <;> try simp only [h]))
    refine exec_loop (fun x : Nat × Int => ⟨[(0, .d (.sl false 4 (dl Cs.s xs))), (1, .d (.int .i64 x.2)), (5, .d (.int .i64 x.1))], []⟩)
      (fun x => x.1 ≤ xs.length ∧ 0 ≤ x.2 ∧ x.2 ≤ n - xs.length ∧ ∀ y ∈ xs.take x.1, y.ok0) (fun x => xs.length - x.1) (0, n - xs.length) (weak_of _ rfl ⟨⟨rfl, rfl⟩, ⟨rfl, rfl⟩, ⟨rfl, rfl⟩, trivial⟩) ⟨by simp, by simp only; omega, by simp only; omega, by simp⟩ ?_
    rintro ⟨i, m⟩ ⟨i1, i2, i3, i4⟩
    simp only at i1 i2 i3 i4 ⊢
    by_cases hlt : i < xs.length
    · obtain ⟨r, hr⟩ := get_lt hlt
      have hd2 : decide ((i : Int) < (xs.length : Int)) = true := decide_eq_true (by omega)
      have hi0 : (0 : Int) ≤ (i : Int) := by omega
      repeat' (first | (simp only [dl_len, dl_nth, hd2, hi0, Int.toNat_natCast, hr, Option.map_some, ↓rd_cs, onC_true, ↓wA, ↓wC, wB, frzBE, frzBS, reduceEqDiff, reduceAdd, reduceSub, reduceIte, reduceCtorEq, Nat.reduceBEq, reduceLT, sz35, sz140]) | ((first | apply execG_split | apply execC_split | apply onPick_split) <;> intro h <;> try simp only [h]))
      refine call_rel (szCase_fn r m i2 (by omega) (hx r (List.mem_of_getElem? hr))) (by simp [argsD, argD, Cs.s_unown]) fun rs h => ?_
      obtain ⟨q, rfl, e1, e2, e3⟩ := h
      refine ⟨.inl rfl, ?_⟩
      cases hq : decide (q < 0) with
      | true =>
        repeat' (first | (simp only [hq, ↓wA, ↓wC, wB, frzBE, frzBS, reduceEqDiff, reduceAdd, reduceSub, reduceIte, reduceCtorEq, Nat.reduceBEq, reduceLT, sz35, sz140]) | ((first | apply execG_split | apply execC_split | apply onPick_split) <;> intro h <;> try simp only [h]))
        exact ⟨-1, rfl, by omega, by omega, by omega⟩
      | false =>
        have hq' := of_decide_eq_false hq
        repeat' (first | (simp only [hq, ↓wA, ↓wC, wB, frzBE, frzBS, reduceEqDiff, reduceAdd, reduceSub, reduceIte, reduceCtorEq, Nat.reduceBEq, reduceLT, sz35, sz140]) | (with_reducible refine onI_bare ?_ ?_; focus (simp only [InR]; omega)) | ((first | apply execG_split | apply execC_split | apply onPick_split) <;> intro h <;> try simp only [h]))
        refine ⟨(i + 1, q), (weak_of _ rfl ⟨⟨rfl, rfl⟩, ⟨rfl, rfl⟩, ⟨rfl, rfl⟩, trivial⟩), ⟨by simp only; omega, by simp only; omega, by simp only; omega, fun y hy => ?_⟩, by simp only; omega⟩
        rw [take_get hr] at hy
        rcases List.mem_append.1 hy with hy | hy
        · exact i4 y hy
        · rw [List.mem_singleton.1 hy]; exact e3 (by omega)
    · have hd2 : decide ((i : Int) < (xs.length : Int)) = false := decide_eq_false (by omega)
      have e : i = xs.length := by omega
      repeat' (first | (simp only [dl_len, hd2, ↓wA, ↓wC, wB, frzBE, frzBS, reduceEqDiff, reduceAdd, reduceSub, reduceIte, reduceCtorEq, Nat.reduceBEq, reduceLT, sz35, sz140]) | ((first | apply execG_split | apply execC_split | apply onPick_split) <;> intro h <;> try simp only [h]))
      refine ⟨m, rfl, by omega, by omega, fun _ => ⟨by omega, fun y hy => i4 y (by rw [e, List.take_length]; exact hy)⟩⟩
theorem szStringS_fn (L : List (List UInt8)) (n : Int) (h0 : 0 ≤ n) (h1 : n ≤ 1048576) (hlen : L.length ≤ maxLen) (hx : ∀ s ∈ L, s.length ≤ maxLen) : Fn prog 124 [.sl false 1 (dl D.str L), .int .i64 n] (fun rs => ∃ m : Int, rs = [.int .i64 m] ∧ -1 ≤ m ∧ m ≤ n ∧ (0 ≤ m → strsOk L)) := by
  have hm' : maxLen = 9223372036854775807 := by rfl
  refine Fn_of' (fn := f124) (by exact func124) c124 r124 (n := 28) (by rfl) (rv := [.tmp 4]) (by rfl) (by simp) ?_
  unfold m124
  try simp only [wQ]
  simp only [dl_len, ↓wA, ↓wC, wB, frzBE, frzBS, reduceEqDiff, reduceAdd, reduceSub, reduceIte, reduceCtorEq, Nat.reduceBEq, reduceLT, sz35, sz140]
  refine onI_bare (by simp only [InR]; omega) ?_
  cases hd : decide (n - (L.length : Int) < 0) with
  | true =>
    repeat' (first | (simp only [hd, ↓wA, ↓wC, wB, frzBE, frzBS, reduceEqDiff, reduceAdd, reduceSub, reduceIte, reduceCtorEq, Nat.reduceBEq, reduceLT, sz35, sz140]) | ((first | apply execG_split | apply execC_split | apply onPick_split) <;> intro h <;> try simp only [h]))
    exact ⟨-1, rfl, by omega, by omega, by omega⟩
  | false =>
    have hd' := of_decide_eq_false hd
    repeat' (first | (simp only [hd, ↓wA, ↓wC, wB, frzBE, frzBS, reduceEqDiff, reduceAdd, reduceSub, reduceIte, reduceCtorEq, Nat.reduceBEq, reduceLT, sz35, sz140]) | ((first | apply execG_split | apply execC_split | apply onPick_split) <;> intro h <;> try simp only [h]))
    refine exec_loop (fun x : Nat × Int => ⟨[(0, .d (.sl false 1 (dl D.str L))), (1, .d (.int .i64 x.2)), (5, .d (.int .i64 x.1))], []⟩)
      (fun x => x.1 ≤ L.length ∧ 0 ≤ x.2 ∧ x.2 ≤ n - L.length ∧ ∀ y ∈ L.take x.1, y.length ≤ 1048576) (fun x => L.length - x.1) (0, n - L.length) (weak_of _ rfl ⟨⟨rfl, rfl⟩, ⟨rfl, rfl⟩, ⟨rfl, rfl⟩, trivial⟩) ⟨by simp, by simp only; omega, by simp only; omega, by simp⟩ ?_
    rintro ⟨i, m⟩ ⟨i1, i2, i3, i4⟩
    simp only at i1 i2 i3 i4 ⊢
    by_cases hlt : i < L.length
    · obtain ⟨r, hr⟩ := get_lt hlt
      have hd2 : decide ((i : Int) < (L.length : Int)) = true := decide_eq_true (by omega)
      have hi0 : (0 : Int) ≤ (i : Int) := by omega
      have hrl := hx r (List.mem_of_getElem? hr)
      cases hq : decide (m - (r.length : Int) < 0) with
      | true =>
        repeat' (first | (simp only [dl_len, dl_nth, hd2, hi0, hq, Int.toNat_natCast, hr, Option.map_some, onC_true, ↓wA, ↓wC, wB, frzBE, frzBS, reduceEqDiff, reduceAdd, reduceSub, reduceIte, reduceCtorEq, Nat.reduceBEq, reduceLT, sz35, sz140]) | (with_reducible refine onI_bare ?_ ?_; focus (simp only [InR]; omega)) | ((first | apply execG_split | apply execC_split | apply onPick_split) <;> intro h <;> try simp only [h]))
        all_goals exact ⟨-1, rfl, by omega, by omega, by omega⟩
      | false =>
        have hq' := of_decide_eq_false hq
        repeat' (first | (simp only [dl_len, dl_nth, hd2, hi0, hq, Int.toNat_natCast, hr, Option.map_some, onC_true, ↓wA, ↓wC, wB, frzBE, frzBS, reduceEqDiff, reduceAdd, reduceSub, reduceIte, reduceCtorEq, Nat.reduceBEq, reduceLT, sz35, sz140]) | (with_reducible refine onI_bare ?_ ?_; focus (simp only [InR]; omega)) | ((first | apply execG_split | apply execC_split | apply onPick_split) <;> intro h <;> try simp only [h]))
        all_goals
          refine ⟨(i + 1, m - r.length), (weak_of _ rfl ⟨⟨rfl, rfl⟩, ⟨rfl, rfl⟩, ⟨rfl, rfl⟩, trivial⟩), ⟨by simp only; omega, by simp only; omega, by simp only; omega, fun y hy => ?_⟩, by simp only; omega⟩
          rw [take_get hr] at hy
          rcases List.mem_append.1 hy with hy | hy
          · exact i4 y hy
          · rw [List.mem_singleton.1 hy]; omega
    · have hd2 : decide ((i : Int) < (L.length : Int)) = false := decide_eq_false (by omega)
      have e : i = L.length := by omega
      repeat' (first | (simp only [dl_len, hd2, ↓wA, ↓wC, wB, frzBE, frzBS, reduceEqDiff, reduceAdd, reduceSub, reduceIte, reduceCtorEq, Nat.reduceBEq, reduceLT, sz35, sz140]) | ((first | apply execG_split | apply execC_split | apply onPick_split) <;> intro h <;> try simp only [h]))
      refine ⟨m, rfl, by omega, by omega, fun _ => ⟨by omega, fun y hy => i4 y (by rw [e, List.take_length]; exact hy)⟩⟩
theorem szOffice_fn (o : Off) (n : Int) (h0 : 0 ≤ n) (h1 : n ≤ 1048576) (c1 : o.cs.length ≤ maxLen) (c2 : ∀ x ∈ o.cs, x.h.length ≤ maxLen) (c3 : o.led.length ≤ maxLen) (c4 : ∀ s ∈ o.led, s.length ≤ maxLen) : Fn prog 51 [o.s, .int .i64 n] (fun rs => ∃ m : Int, rs = [.int .i64 m] ∧ -1 ≤ m ∧ m ≤ n ∧ (0 ≤ m → o.ok0)) := by
  refine Fn_of' (fn := f51) (by exact func51) c51 r51 (n := 18) (by rfl) (rv := [.tmp 4]) (by rfl) (by simp) ?_
  unfold m51
  try simp only [wQ]
  simp only [Off.s, offP]
  repeat' (first | (simp only [css_noOwn, strs_noOwn, onC_true, ↓wA, ↓wC, wB, frzBE, frzBS, reduceEqDiff, reduceAdd, reduceSub, reduceIte, reduceCtorEq, Nat.reduceBEq, reduceLT, sz35, sz140]) | ((first | apply execG_split | apply execC_split | apply onPick_split) <;> intro h <;> try simp only [h]))
  refine call_rel (szCaseS_fn o.cs n h0 h1 c1 c2) rfl fun rs h => ?_
  obtain ⟨m, rfl, e1, e2, e3⟩ := h
  refine ⟨.inl rfl, ?_⟩
  cases hd : decide (m < 0) with
  | true =>
    repeat' (first | (simp only [hd, ↓wA, ↓wC, wB, frzBE, frzBS, reduceEqDiff, reduceAdd, reduceSub, reduceIte, reduceCtorEq, Nat.reduceBEq, reduceLT, sz35, sz140]) | ((first | apply execG_split | apply execC_split | apply onPick_split) <;> intro h <;> try simp only [h]))
    exact ⟨-1, rfl, by omega, by omega, by omega⟩
  | false =>
    have hd' := of_decide_eq_false hd
    repeat' (first | (simp only [hd, css_noOwn, strs_noOwn, onC_true, ↓wA, ↓wC, wB, frzBE, frzBS, reduceEqDiff, reduceAdd, reduceSub, reduceIte, reduceCtorEq, Nat.reduceBEq, reduceLT, sz35, sz140]) | ((first | apply execG_split | apply execC_split | apply onPick_split) <;> intro h <;> try simp only [h]))
    refine call_rel (szStringS_fn o.led m (by omega) (by omega) c3 c4) rfl fun rs h => ?_
    obtain ⟨q, rfl, f1, f2, f3⟩ := h
    refine ⟨.inl rfl, ?_⟩
    cases hq : decide (q < 0) with
    | true =>
      repeat' (first | (simp only [hq, ↓wA, ↓wC, wB, frzBE, frzBS, reduceEqDiff, reduceAdd, reduceSub, reduceIte, reduceCtorEq, Nat.reduceBEq, reduceLT, sz35, sz140]) | ((first | apply execG_split | apply execC_split | apply onPick_split) <;> intro h <;> try simp only [h]))
      exact ⟨-1, rfl, by omega, by omega, by omega⟩
    | false =>
      repeat' (first | (simp only [hq, ↓wA, ↓wC, wB, frzBE, frzBS, reduceEqDiff, reduceAdd, reduceSub, reduceIte, reduceCtorEq, Nat.reduceBEq, reduceLT, sz35, sz140]) | ((first | apply execG_split | apply execC_split | apply onPick_split) <;> intro h <;> try simp only [h]))
      exact ⟨q, rfl, f1, by omega, fun h => ⟨e3 (by omega), f3 h⟩⟩
theorem eqStringS_refl (L : List (List UInt8)) (hlen : L.length ≤ 1048576) : Fn prog 17 [.sl false 1 (dl D.str L), .sl false 1 (dl D.str L)] (fun rs => rs = [.bool true]) := by
  refine Fn_of' (fn := f17) (by exact func17) c17 r17 (n := 26) (by rfl) (rv := [.tmp 4]) (by rfl) (by simp) ?_
  unfold m17
  try simp only [wQ]
  repeat' (first | (simp only [dl_len, ↓wA, ↓wC, wB, frzBE, frzBS, reduceEqDiff, reduceAdd, reduceSub, reduceIte, reduceCtorEq, Nat.reduceBEq, reduceLT, sz35, sz140]) | ((first | apply execG_split | apply execC_split | apply onPick_split) <;> intro h <;> try simp only [h]))
  refine exec_range L.length (fun i : Nat => ⟨[(0, .d (.sl false 1 (dl D.str L))), (1, .d (.sl false 1 (dl D.str L))), (5, .d (.int .i64 i))], []⟩) (fun _ => True) (weak_of _ rfl ⟨⟨rfl, rfl⟩, ⟨rfl, rfl⟩, ⟨rfl, rfl⟩, trivial⟩) trivial ?_ ?_
  · intro i hlt _ hd h0
    obtain ⟨r, hr⟩ := get_lt hlt
    repeat' (first | (simp only [dl_len, dl_nth, hd, Int.toNat_natCast, hr, Option.map_some, h0, onC_true, decide_true, ↓wA, ↓wC, wB, frzBE, frzBS, reduceEqDiff, reduceAdd, reduceSub, reduceIte, reduceCtorEq, Nat.reduceBEq, reduceLT, sz35, sz140]) | (with_reducible refine onI_bare ?_ ?_; focus (simp only [InR]; omega)) | ((first | apply execG_split | apply execC_split | apply onPick_split) <;> intro h <;> try simp only [h]))
    all_goals exact ⟨i + 1, (weak_of _ rfl ⟨⟨rfl, rfl⟩, ⟨rfl, rfl⟩, ⟨rfl, rfl⟩, trivial⟩), by omega, by omega⟩
  · intro _ hd
    repeat' (first | (simp only [dl_len, hd, ↓wA, ↓wC, wB, frzBE, frzBS, reduceEqDiff, reduceAdd, reduceSub, reduceIte, reduceCtorEq, Nat.reduceBEq, reduceLT, sz35, sz140]) | ((first | apply execG_split | apply execC_split | apply onPick_split) <;> intro h <;> try simp only [h]))
theorem eqCase_refl (x : Cs) (hx : x.ok0) : Fn prog 193 [x.s, x.s] (fun rs => rs = [.bool true]) := by
  have h1 := eqIntS_refl x.h hx
  refine Fn_of' (fn := f193) (by exact func193) c193 r193 (n := 26) (by rfl) (rv := [.tmp 4]) (by rfl) (by simp) ?_
  unfold m193
  try simp only [wQ]
  simp only [Cs.s, Cs.p]
  repeat' (first | (simp only [ints_noOwn, onC_true, decide_true, ↓wA, ↓wC, wB, frzBE, frzBS, reduceEqDiff, reduceAdd, reduceSub, reduceIte, reduceCtorEq, Nat.reduceBEq, reduceLT, sz35, sz140]) | (refine call_det h1 rfl rfl ?_) | ((first | apply execG_split | apply execC_split | apply onPick_split) <;> intro h <;> try simp only [h]))
theorem eqCaseS_refl (xs : List Cs) (hx : casesOk xs) : Fn prog 127 [.sl false 4 (dl Cs.s xs), .sl false 4 (dl Cs.s xs)] (fun rs => rs = [.bool true]) := by
  have hlen := hx.1
  refine Fn_of' (fn := f127) (by exact func127) c127 r127 (n := 27) (by rfl) (rv := [.tmp 4]) (by rfl) (by simp) ?_
  unfold m127
  try simp only [wQ]
  repeat' (first | (simp only [dl_len, ↓wA, ↓wC, wB, frzBE, frzBS, reduceEqDiff, reduceAdd, reduceSub, reduceIte, reduceCtorEq, Nat.reduceBEq, reduceLT, sz35, sz140]) | ((first | apply execG_split | apply execC_split | apply onPick_split) <;> intro h <;> try simp only [h]))
  refine exec_range xs.length (fun i : Nat => ⟨[(0, .d (.sl false 4 (dl Cs.s xs))), (1, .d (.sl false 4 (dl Cs.s xs))), (5, .d (.int .i64 i))], []⟩) (fun _ => True) (weak_of _ rfl ⟨⟨rfl, rfl⟩, ⟨rfl, rfl⟩, ⟨rfl, rfl⟩, trivial⟩) trivial ?_ ?_
  · intro i hlt _ hd h0
    obtain ⟨r, hr⟩ := get_lt hlt
    have he := eqCase_refl r (hx.2 r (List.mem_of_getElem? hr))
    repeat' (first | (simp only [dl_len, dl_nth, hd, Int.toNat_natCast, hr, Option.map_some, ↓rd_cs, h0, onC_true, ↓wA, ↓wC, wB, frzBE, frzBS, reduceEqDiff, reduceAdd, reduceSub, reduceIte, reduceCtorEq, Nat.reduceBEq, reduceLT, sz35, sz140]) | (refine callP_det he (by simp [argsD, argD, valOf, Cs.s_unown]) rfl ?_) | (refine call_det he (by simp [argsD, argD, valOf, Cs.s_unown]) rfl ?_) | (with_reducible refine onI_bare ?_ ?_; focus (simp only [InR]; omega)) | ((first | apply execG_split | apply execC_split | apply onPick_split) <;> intro h <;> try simp only [h]))
    all_goals exact ⟨i + 1, (weak_of _ rfl ⟨⟨rfl, rfl⟩, ⟨rfl, rfl⟩, ⟨rfl, rfl⟩, trivial⟩), by omega, by omega⟩
  · intro _ hd
    repeat' (first | (simp only [dl_len, hd, ↓wA, ↓wC, wB, frzBE, frzBS, reduceEqDiff, reduceAdd, reduceSub, reduceIte, reduceCtorEq, Nat.reduceBEq, reduceLT, sz35, sz140]) | ((first | apply execG_split | apply execC_split | apply onPick_split) <;> intro h <;> try simp only [h]))
theorem eqOffice_refl (o : Off) (ho : o.ok0) : Fn prog 54 [o.s, o.s] (fun rs => rs = [.bool true]) := by
  have h1 := eqCaseS_refl o.cs ho.1
  have h2 := eqStringS_refl o.led ho.2.1
  refine Fn_of' (fn := f54) (by exact func54) c54 r54 (n := 32) (by rfl) (rv := [.tmp 4]) (by rfl) (by simp) ?_
  unfold m54
  try simp only [wQ]
  simp only [Off.s, offP]
  repeat' (first | (simp only [css_noOwn, strs_noOwn, onC_true, decide_true, ↓wA, ↓wC, wB, frzBE, frzBS, reduceEqDiff, reduceAdd, reduceSub, reduceIte, reduceCtorEq, Nat.reduceBEq, reduceLT, sz35, sz140]) | (refine call_det h1 rfl rfl ?_) | (refine call_det h2 rfl rfl ?_) | ((first | apply execG_split | apply execC_split | apply onPick_split) <;> intro h <;> try simp only [h]))
theorem toStringS_own (L : List (List UInt8)) (hlen : L.length ≤ 1048576) : Fn prog 126 [.sl false 1 (dl D.str L)] (fun rs => rs = [.sl true 1 (dl D.str L)]) := by
  refine Fn_of' (fn := f126) (by exact func126) c126 r126 (n := 22) (by rfl) (rv := [.tmp 2]) (by rfl) (by simp) ?_
  unfold m126
  try simp only [wQ]
  simp only [↓wA, ↓wC, wB, frzBE, frzBS, reduceEqDiff, reduceAdd, reduceSub, reduceIte, reduceCtorEq, Nat.reduceBEq, reduceLT, sz35, sz140]
  simp only [dl_len, ↓wA, ↓wC, wB, frzBE, frzBS, reduceEqDiff, reduceAdd, reduceSub, reduceIte, reduceCtorEq, Nat.reduceBEq, reduceLT, sz35, sz140]
  refine onC_i (by omega) ?_
  have hz : ofL (List.replicate (↑L.length : Int).toNat (D.str [])) = dl D.str (L.take 0 ++ List.replicate (L.length - 0) []) := by
    rw [dl_replicate]; simp
  rw [hz]
  refine exec_range L.length (fun i : Nat => ⟨[(0, .d (.sl false 1 (dl D.str L))), (3, .own 0), (4, .d (.int .i64 i))], [.val (.sl true 1 (dl D.str (L.take i ++ List.replicate (L.length - i) [])))]⟩) (fun _ => True) (weak_of _ rfl ⟨⟨rfl, rfl⟩, ⟨rfl, rfl⟩, ⟨rfl, rfl⟩, trivial⟩) trivial ?_ ?_
  · intro i hlt _ hd h0
    obtain ⟨r, hr⟩ := get_lt hlt
    have hn : (L.take i ++ List.replicate (L.length - i) ([] : List UInt8))[i]? = some [] := by
      rw [List.getElem?_append_right (by simp; omega), List.length_take, Nat.min_eq_left (by omega), Nat.sub_self, show L.length - i = (L.length - (i + 1)) + 1 by omega]; rfl
    have hfs : (dl D.str (L.take i ++ List.replicate (L.length - i) ([] : List UInt8))).setN i (D.str r) = dl D.str (L.take (i + 1) ++ List.replicate (L.length - (i + 1)) []) := by
      rw [dl_setN, fill_step hr]
    repeat' (first | (simp only [dl_len, dl_nth, hd, h0, Int.toNat_natCast, hr, hn, hfs, Option.map_some, onC_true, ↓wA, ↓wC, wB, frzBE, frzBS, reduceEqDiff, reduceAdd, reduceSub, reduceIte, reduceCtorEq, Nat.reduceBEq, reduceLT, sz35, sz140]) | (with_reducible refine onI_bare ?_ ?_; focus (simp only [InR]; omega)) | ((first | apply execG_split | apply execC_split | apply onPick_split) <;> intro h <;> try simp only [h]))
    all_goals exact ⟨i + 1, (weak_of _ rfl ⟨⟨rfl, rfl⟩, ⟨rfl, rfl⟩, ⟨rfl, rfl⟩, trivial⟩), by omega, by omega⟩
  · intro _ hd
    repeat' (first | (simp only [dl_len, hd, ↓wA, ↓wC, wB, frzBE, frzBS, reduceEqDiff, reduceAdd, reduceSub, reduceIte, reduceCtorEq, Nat.reduceBEq, reduceLT, sz35, sz140]) | ((first | apply execG_split | apply execC_split | apply onPick_split) <;> intro h <;> try simp only [h]))
    all_goals simp
theorem toCase_own (x : Cs) (hx : x.ok0) : Fn prog 192 [x.s] (fun rs => rs = [x.o]) := by
  have h1 := toIntS_own x.h hx
  refine Fn_ofg (ps := [[1, 1, 1, 1, 1, 1, 0], [1, 1, 1, 1, 1, 1, 1]]) (fn := f192) (by exact func192) c192 r192 (n := 18) (by rfl) (rv := [.cell 2 140]) (by rfl) (by simp) ?_
  unfold m192
  try simp only [wQ]
  simp only [ghAll, ghAt]
  simp only [Cs.s, Cs.p]
  repeat' (first | (simp only [ints_noOwn, onC_true, ↓wA, ↓wC, wB, frzBE, frzBS, reduceEqDiff, reduceAdd, reduceSub, reduceIte, reduceCtorEq, Nat.reduceBEq, reduceLT, sz35, sz140]) | (refine call_det h1 rfl rfl ?_) | ((first | apply execG_split | apply execC_split | apply onPick_split) <;> intro h <;> try simp only [h]))
  refine exec_gh _ (unlink 2 none [3] (es := 1) (xs := dl iD x.h) rfl rfl) fun v1 => ?_
  simp only [obSet, ints_noOwn, onC_true, ↓wA, ↓wC, wB, frzBE, frzBS, reduceEqDiff, reduceAdd, reduceSub, reduceIte, reduceCtorEq, Nat.reduceBEq, reduceLT, sz35, sz140]
  refine exec_gh1 (relink 1 5 4 none [3] rfl rfl rfl rfl (by decide) rfl) ?_
  simp only [obSet, ints_noOwn, onC_true, ↓wA, ↓wC, wB, frzBE, frzBS, reduceEqDiff, reduceAdd, reduceSub, reduceIte, reduceCtorEq, Nat.reduceBEq, reduceLT, sz35, sz140]
  rfl
def zC : D := .st (.cons (.int .i64 0) (.cons (.int .i64 0) (.cons (.int .i64 0) (.cons (.sl true 1 .nil) .nil))))
def oz : Option Cs → D
  | some x => x.o
  | none => zC
theorem dl_someC : ∀ xs : List Cs, dl oz (xs.map some) = dl Cs.o xs
  | [] => rfl
  | x :: xs => by
    have := dl_someC xs
    simp only [dl, List.map_cons, ofL] at this ⊢
    rw [this]; rfl
theorem toCaseS_own (xs : List Cs) (hx : casesOk xs) : Fn prog 125 [.sl false 4 (dl Cs.s xs)] (fun rs => rs = [.sl true 4 (dl Cs.o xs)]) := by
  have hlen := hx.1
  refine Fn_of' (fn := f125) (by exact func125) c125 r125 (n := 23) (by rfl) (rv := [.tmp 2]) (by rfl) (by simp) ?_
  unfold m125
  try simp only [wQ]
  simp only [↓wA, ↓wC, wB, frzBE, frzBS, reduceEqDiff, reduceAdd, reduceSub, reduceIte, reduceCtorEq, Nat.reduceBEq, reduceLT, sz35, sz140]
  simp only [dl_len, ↓wA, ↓wC, wB, frzBE, frzBS, reduceEqDiff, reduceAdd, reduceSub, reduceIte, reduceCtorEq, Nat.reduceBEq, reduceLT, sz35, sz140]
  refine onC_i (by omega) ?_
  have hz : ofL (List.replicate (↑xs.length : Int).toNat zC) = dl oz ((xs.map some).take 0 ++ List.replicate (xs.length - 0) none) := by
    rw [show zC = oz none from rfl, dl_replicate]; simp
  have hz' : D.st ((D.int IntKind.i64 0).cons ((D.int IntKind.i64 0).cons ((D.int IntKind.i64 0).cons ((D.sl true 1 .nil).cons D.nil)))) = zC := rfl
  rw [hz', hz]
  refine exec_range xs.length (fun i : Nat => ⟨[(0, .d (.sl false 4 (dl Cs.s xs))), (3, .own 0), (4, .d (.int .i64 i))], [.val (.sl true 4 (dl oz ((xs.map some).take i ++ List.replicate (xs.length - i) none)))]⟩) (fun _ => True) (weak_of _ rfl ⟨⟨rfl, rfl⟩, ⟨rfl, rfl⟩, ⟨rfl, rfl⟩, trivial⟩) trivial ?_ ?_
  · intro i hlt _ hd h0
    obtain ⟨r, hr⟩ := get_lt hlt
    have hto := toCase_own r (hx.2 r (List.mem_of_getElem? hr))
    have hrs : (xs.map some)[i]? = some (some r) := by rw [List.getElem?_map, hr]; rfl
    have hn : ((xs.map some).take i ++ List.replicate (xs.length - i) (none : Option Cs))[i]? = some none := by
      rw [List.getElem?_append_right (by simp; omega), List.length_take, List.length_map, Nat.min_eq_left (by omega), Nat.sub_self, show xs.length - i = (xs.length - (i + 1)) + 1 by omega]; rfl
    repeat' (first | (simp only [dl_len, dl_nth, hd, h0, Int.toNat_natCast, hr, hn, Option.map_some, onC_true, ↓rd_cs, Cs.o_isV, Cs.o_size, Cs.o_noOwn, Cs.s_noOwn, ↓wA, ↓wC, wB, frzBE, frzBS, reduceEqDiff, reduceAdd, reduceSub, reduceIte, reduceCtorEq, Nat.reduceBEq, reduceLT, sz35, sz140]) | (refine call_det hto (by simp [argsD, argD, valOf, Cs.s_unown]) rfl ?_) | (refine onI_bare (by simp only [InR]; omega) ?_) | ((first | apply execG_split | apply execC_split | apply onPick_split) <;> intro h <;> try simp only [h]))
    refine onC_i rfl ?_
    refine onI_bare (by simp only [InR]; omega) ?_
    have hfs : (dl oz ((xs.map some).take i ++ List.replicate (xs.length - i) none)).setN i r.o = dl oz ((xs.map some).take (i + 1) ++ List.replicate (xs.length - (i + 1)) none) := by
      have hl : xs.length = (xs.map (some : Cs → Option Cs)).length := by simp
      rw [show r.o = oz (some r) from rfl, dl_setN]
      conv => lhs; rw [hl]
      conv => rhs; rw [hl]
      rw [fill_step hrs]
    rw [hfs]
    exact ⟨i + 1, (weak_of _ rfl ⟨⟨rfl, rfl⟩, ⟨rfl, rfl⟩, ⟨rfl, rfl⟩, trivial⟩), by omega, by omega⟩
  · intro _ hd
    simp only [dl_len, hd, ↓wA, ↓wC, wB, frzBE, frzBS, reduceEqDiff, reduceAdd, reduceSub, reduceIte, reduceCtorEq, Nat.reduceBEq, reduceLT, sz35, sz140]
    have h1 : (xs.map (some : Cs → Option Cs)).take xs.length = xs.map some := List.take_of_length_le (by simp)
    rw [h1, Nat.sub_self, List.replicate_zero, List.append_nil, dl_someC]
theorem toOffice_own (o : Off) (ho : o.ok0) : Fn prog 52 [o.s] (fun rs => rs = [o.o]) := by
  have h1 := toCaseS_own o.cs ho.1
  have h2 := toStringS_own o.led ho.2.1
  refine Fn_ofg (ps := [[1, 1, 1, 1, 1, 1, 1, 0], [1, 1, 1, 1, 1, 1, 1, 0], [1, 1, 1, 1, 1, 1, 1, 1], [1, 1, 1, 1, 1, 1, 1, 1]]) (fn := f52) (by exact func52) c52 r52 (n := 22) (by rfl) (rv := [.cell 2 35]) (by rfl) (by simp) ?_
  unfold m52
  try simp only [wQ]
  simp only [ghAll, ghAt]
  simp only [Off.s, offP]
  repeat' (first | (simp only [css_noOwn, strs_noOwn, onC_true, ↓wA, ↓wC, wB, frzBE, frzBS, reduceEqDiff, reduceAdd, reduceSub, reduceIte, reduceCtorEq, Nat.reduceBEq, reduceLT, sz35, sz140]) | (refine call_det h1 rfl rfl ?_) | (refine call_det h2 rfl rfl ?_) | ((first | apply execG_split | apply execC_split | apply onPick_split) <;> intro h <;> try simp only [h]))
  refine exec_gh _ (unlink 2 none [1] (es := 4) (xs := dl Cs.o o.cs) rfl rfl) fun v1 => ?_
  simp only [obSet, css_noOwn, strs_noOwn, onC_true, ↓wA, ↓wC, wB, frzBE, frzBS, reduceEqDiff, reduceAdd, reduceSub, reduceIte, reduceCtorEq, Nat.reduceBEq, reduceLT, sz35, sz140]
  refine exec_gh _ (unlink 2 none [4] (es := 1) (xs := dl D.str o.led) rfl rfl) fun v2 => ?_
  simp only [obSet, css_noOwn, strs_noOwn, onC_true, ↓wA, ↓wC, wB, frzBE, frzBS, reduceEqDiff, reduceAdd, reduceSub, reduceIte, reduceCtorEq, Nat.reduceBEq, reduceLT, sz35, sz140]
  refine exec_gh1 (relink 1 6 5 none [1] rfl rfl rfl rfl (by decide) rfl) ?_
  simp only [obSet, css_noOwn, strs_noOwn, onC_true, ↓wA, ↓wC, wB, frzBE, frzBS, reduceEqDiff, reduceAdd, reduceSub, reduceIte, reduceCtorEq, Nat.reduceBEq, reduceLT, sz35, sz140]
  refine exec_gh1 (relink 1 8 7 none [4] rfl rfl rfl rfl (by decide) rfl) ?_
  simp only [obSet, css_noOwn, strs_noOwn, onC_true, ↓wA, ↓wC, wB, frzBE, frzBS, reduceEqDiff, reduceAdd, reduceSub, reduceIte, reduceCtorEq, Nat.reduceBEq, reduceLT, sz35, sz140]
  rfl
theorem toOffice_fn (o : Off) (ho : o.ok0) : Fn prog 52 [o.s] (fun rs => rs = [o.s]) := by
  have h := Fn_unown (toOffice_own o ho)
  simpa [Off.o_unown] using h
end Go.Pe.Tryz
set_option maxRecDepth 100000
set_option maxHeartbeats 4000000
set_option linter.all false
namespace Go.Pe.Tryz
open Nat (reduceEqDiff reduceAdd reduceSub reduceLT)
open Go.Proofs.Tryz
def setL (l : List UInt8) : List Bool := (List.range 256).map fun j => l.contains (UInt8.ofNat j)
def setD (l : List UInt8) : D := .st (dl D.bool (setL l))
theorem bools_rep {w : World} {M : Nat → Prop} : ∀ L : List Bool, (dl D.bool L).rep w M (L.map Value.bool) []
  | [] => ⟨rfl, rfl⟩
  | b :: L => ⟨[.bool b], _, [], [], rfl, rfl, ⟨rfl, rfl⟩, bools_rep L⟩
theorem setL_cells (l : List UInt8) : (Lib.setCells l).toList = (setL l).map Value.bool := by
  rw [Lib.setCells_eq]
  simp [setL, List.map_map, Function.comp_def]
theorem setL_at (l : List UInt8) (x : UInt8) : (setL l)[x.toNat]? = some (l.contains x) := by
  have h := x.toNat_lt
  simp only [setL, List.getElem?_map, List.getElem?_range h, Option.map_some, UInt8.ofNat_toNat]
theorem makeSet_fn (s : List UInt8) (h128 : ∀ b ∈ s, b.toNat < 128) (hl : s.length < 4000000000) : Fn prog 254 [.str s] (fun rs => rs = [setD s, .bool true]) := by
  intro M vs w hM hG hv
  obtain ⟨cs, us, f1, f2, rfl, e, ⟨rfl, _⟩, rfl, rfl⟩ := hv
  refine (Go.Proofs.Tryz.strings_makeASCIISet (fun w => by kernel_rfl) ⟨s.toArray⟩ w (by show s.toArray.size < _; simp; omega) ?_).mono ?_
  · intro j b hb
    exact h128 b (List.mem_of_getElem? (by simpa using hb))
  · rintro e w' ⟨rfl, rfl⟩
    refine ⟨[setD s, .bool true], [.agg (Lib.setCells s), .bool true], [], rfl, rfl, ⟨(Lib.setCells s).toList, [.bool true], [], [], rfl, rfl, ?_, ⟨[.bool true], [], [], [], rfl, rfl, ⟨rfl, rfl⟩, rfl, rfl⟩⟩, List.nodup_nil, (by simp), ext_alloc w _⟩
    rw [setL_cells]
    exact bools_rep _
theorem bools_pre : ∀ (L : List Bool) (n : Nat), n ≤ L.length → (dl D.bool L).pre n = n
  | _, 0, _ => by cases ‹List Bool› <;> rfl
  | [], n + 1, h => by simp at h
  | b :: L, n + 1, h => by
    have := bools_pre L n (by simpa using h)
    show 1 + (dl D.bool L).pre n = n + 1
    omega
theorem contains_fnS (l : List UInt8) (x : UInt8) : Fn prog 287 [.ptr (setD l), .int .u8 (x.toNat : Int)] (fun rs => rs = [.bool (l.contains x)]) := by
  have h256 := x.toNat_lt
  have hx := setL_at l x
  have hp := bools_pre (setL l) x.toNat (by simp [setL]; omega)
  have hp' : (dl D.bool (setL l)).pre x.toNat = x.toNat * 1 := by omega
  refine Fn_of' (fn := f287) (by exact func287) c287 r287 (n := 10) (by rfl) (rv := [.tmp 4]) (by rfl) (by simp) ?_
  unfold m287
  try simp only [wQ]
  simp only [setD]
  repeat' (first | (simp only [onC_true, Int.toNat_natCast, hp', dl_nth, hx, Option.map_some, ↓wA, ↓wC, wB, frzBE, frzBS, reduceEqDiff, reduceAdd, reduceSub, reduceIte, reduceCtorEq, Nat.reduceBEq, reduceLT]) | (with_reducible refine onC_i ?_ ?_; focus omega) | ((first | apply execG_split | apply execC_split | apply onPick_split) <;> intro h <;> try simp only [h]))
def trimL (l s : List UInt8) : List UInt8 := s.dropWhile (fun b => l.contains b)
def trimR (l s : List UInt8) : List UInt8 := (s.reverse.dropWhile (fun b => l.contains b)).reverse
theorem trimL_fn (l s : List UInt8) (hl : s.length ≤ 1000000) : Fn prog 255 [.str s, .ptr (setD l)] (fun rs => rs = [.str (trimL l s)]) := by
  refine Fn_of' (fn := f255) (by exact func255) c255 r255 (n := 16) (by rfl) (rv := [.tmp 4]) (by rfl) (by simp) ?_
  unfold m255
  try simp only [wQ]
  repeat' (first | (simp only [onC_true, ↓wA, ↓wC, wB, frzBE, frzBS, reduceEqDiff, reduceAdd, reduceSub, reduceIte, reduceCtorEq, Nat.reduceBEq, reduceLT]) | ((first | apply execG_split | apply execC_split | apply onPick_split) <;> intro h <;> try simp only [h]))
  refine exec_loop (fun t : List UInt8 => ⟨[(0, .d (.str t)), (1, .d (.ptr (setD l)))], []⟩) (fun t => trimL l t = trimL l s ∧ t.length ≤ 1000000) (fun t => t.length) s (weak_of _ rfl ⟨⟨rfl, rfl⟩, ⟨rfl, rfl⟩, trivial⟩) ⟨rfl, hl⟩ ?_
  rintro t ⟨h1, h2⟩
  cases t with
  | nil =>
    have hd : decide ((0 : Int) < ((0 : Nat) : Int)) = false := rfl
    repeat' (first | (simp only [onC_true, hd, ↓wA, ↓wC, wB, frzBE, frzBS, reduceEqDiff, reduceAdd, reduceSub, reduceIte, reduceCtorEq, Nat.reduceBEq, reduceLT]) | ((first | apply execG_split | apply execC_split | apply onPick_split) <;> intro h <;> try simp only [h]))
    all_goals (rw [← h1]; rfl)
  | cons b t =>
    have hd : decide ((0 : Int) < ((t.length + 1 : Nat) : Int)) = true := decide_eq_true (by omega)
    have hC := contains_fnS l b
    have h0 : (b :: t)[(0 : Int).toNat]? = some b := rfl
    have hdr : (b :: t).drop (1 : Int).toNat = t := rfl
    simp only [List.length_cons] at h2
    cases hb : l.contains b with
    | true =>
      rw [hb] at hC
      have e : trimL l (b :: t) = trimL l t := by unfold trimL; rw [List.dropWhile_cons, if_pos hb]
      repeat' (first | (simp only [onC_true, hd, h0, hdr, ↓wA, ↓wC, wB, frzBE, frzBS, reduceEqDiff, reduceAdd, reduceSub, reduceIte, reduceCtorEq, Nat.reduceBEq, reduceLT]) | (refine call_det (hC) rfl rfl ?_) | (refine callP_det (hC) rfl rfl ?_) | (with_reducible refine onC_i ?_ ?_; focus omega) | (with_reducible refine onC_i ?_ ?_; focus (simp; done)) | ((first | apply execG_split | apply execC_split | apply onPick_split) <;> intro h <;> try simp only [h]))
      all_goals exact ⟨t, (weak_of _ rfl ⟨⟨rfl, rfl⟩, ⟨rfl, rfl⟩, trivial⟩), ⟨by rw [← e]; exact h1, by omega⟩, by simp⟩
    | false =>
      rw [hb] at hC
      have e : trimL l (b :: t) = b :: t := by unfold trimL; rw [List.dropWhile_cons, if_neg (by rw [hb]; decide)]
      repeat' (first | (simp only [onC_true, hd, h0, ↓wA, ↓wC, wB, frzBE, frzBS, reduceEqDiff, reduceAdd, reduceSub, reduceIte, reduceCtorEq, Nat.reduceBEq, reduceLT]) | (refine call_det (hC) rfl rfl ?_) | (refine callP_det (hC) rfl rfl ?_) | (with_reducible refine onC_i ?_ ?_; focus omega) | ((first | apply execG_split | apply execC_split | apply onPick_split) <;> intro h <;> try simp only [h]))
      all_goals (rw [← h1, e])
theorem trimR_snoc (l s : List UInt8) (b : UInt8) : trimR l (s ++ [b]) = if l.contains b = true then trimR l s else s ++ [b] := by
  unfold trimR
  rw [List.reverse_append, List.reverse_singleton, List.singleton_append, List.dropWhile_cons]
  split
  · rfl
  · simp
theorem trimR_fn (l s : List UInt8) (hl : s.length ≤ 1000000) : Fn prog 256 [.str s, .ptr (setD l)] (fun rs => rs = [.str (trimR l s)]) := by
  refine Fn_of' (fn := f256) (by exact func256) c256 r256 (n := 22) (by rfl) (rv := [.tmp 4]) (by rfl) (by simp) ?_
  unfold m256
  try simp only [wQ]
  repeat' (first | (simp only [onC_true, ↓wA, ↓wC, wB, frzBE, frzBS, reduceEqDiff, reduceAdd, reduceSub, reduceIte, reduceCtorEq, Nat.reduceBEq, reduceLT]) | ((first | apply execG_split | apply execC_split | apply onPick_split) <;> intro h <;> try simp only [h]))
  refine exec_loop (fun t : List UInt8 => ⟨[(0, .d (.str t)), (1, .d (.ptr (setD l)))], []⟩) (fun t => trimR l t = trimR l s ∧ t.length ≤ 1000000) (fun t => t.length) s (weak_of _ rfl ⟨⟨rfl, rfl⟩, ⟨rfl, rfl⟩, trivial⟩) ⟨rfl, hl⟩ ?_
  rintro t ⟨h1, h2⟩
  rcases List.eq_nil_or_concat t with rfl | ⟨u, b, rfl⟩
  · have hd : decide ((0 : Int) < ((0 : Nat) : Int)) = false := rfl
    repeat' (first | (simp only [onC_true, hd, ↓wA, ↓wC, wB, frzBE, frzBS, reduceEqDiff, reduceAdd, reduceSub, reduceIte, reduceCtorEq, Nat.reduceBEq, reduceLT]) | ((first | apply execG_split | apply execC_split | apply onPick_split) <;> intro h <;> try simp only [h]))
    all_goals (rw [← h1]; rfl)
  · rw [List.concat_eq_append] at *
    have hlen : (u ++ [b]).length = u.length + 1 := by simp
    rw [hlen] at h2
    have hd : decide ((0 : Int) < ((u.length + 1 : Nat) : Int)) = true := decide_eq_true (by omega)
    have hC := contains_fnS l b
    have hn : (((u.length + 1 : Nat) : Int) - 1).toNat = u.length := by omega
    have h0 : (u ++ [b])[u.length]? = some b := by simp
    have htk : (u ++ [b]).take u.length = u := by simp
    have e := trimR_snoc l u b
    cases hb : l.contains b with
    | true =>
      rw [hb] at hC
      rw [if_pos hb] at e
      repeat' (first | (simp only [onC_true, hlen, hd, hn, h0, htk, ↓wA, ↓wC, wB, frzBE, frzBS, reduceEqDiff, reduceAdd, reduceSub, reduceIte, reduceCtorEq, Nat.reduceBEq, reduceLT]) | (refine call_det (hC) rfl rfl ?_) | (refine callP_det (hC) rfl rfl ?_) | (with_reducible refine onI_bare ?_ ?_; focus (simp only [InR]; omega)) | (with_reducible refine onC_i ?_ ?_; focus omega) | ((first | apply execG_split | apply execC_split | apply onPick_split) <;> intro h <;> try simp only [h]))
      all_goals exact ⟨u, (weak_of _ rfl ⟨⟨rfl, rfl⟩, ⟨rfl, rfl⟩, trivial⟩), ⟨by rw [← e]; exact h1, by omega⟩, by simp⟩
    | false =>
      rw [hb] at hC
      rw [if_neg (by rw [hb]; decide)] at e
      repeat' (first | (simp only [onC_true, hlen, hd, hn, h0, ↓wA, ↓wC, wB, frzBE, frzBS, reduceEqDiff, reduceAdd, reduceSub, reduceIte, reduceCtorEq, Nat.reduceBEq, reduceLT]) | (refine call_det (hC) rfl rfl ?_) | (refine callP_det (hC) rfl rfl ?_) | (with_reducible refine onI_bare ?_ ?_; focus (simp only [InR]; omega)) | (with_reducible refine onC_i ?_ ?_; focus omega) | ((first | apply execG_split | apply execC_split | apply onPick_split) <;> intro h <;> try simp only [h]))
      all_goals (rw [← h1, e])
def cutSet : List UInt8 := [97, 98, 99, 100, 101, 102, 103, 104, 105, 106, 107, 108, 109, 110, 111, 112, 113, 114, 115, 116, 117, 118, 119, 120, 121, 122, 48, 49, 50, 51, 52, 53, 54, 55, 56, 57, 32, 45]
def eB (b : UInt8) : Bool := within (b.toNat : Int) 97 122 || within (b.toNat : Int) 48 57 || decide ((b.toNat : Int) = 32) || decide ((b.toNat : Int) = 45)
theorem cut_eB (b : UInt8) : cutSet.contains b = eB b := by
  have h : ∀ n, n < 256 → cutSet.contains (UInt8.ofNat n) = eB (UInt8.ofNat n) := by decide
  have := h b.toNat b.toNat_lt
  rwa [UInt8.ofNat_toNat] at this
theorem dropWhile_nil {p : UInt8 → Bool} : ∀ (s : List UInt8), s.dropWhile p = [] ↔ s.all p = true
  | [] => by simp
  | b :: s => by
    rw [List.dropWhile_cons]
    cases hb : p b with
    | true => simp [hb, dropWhile_nil s]
    | false => simp [hb]
theorem trim_nilN (l : List UInt8) : ∀ (n : Nat) (s : List UInt8), s.length = n → (trimL l (trimR l s) = [] ↔ s.all (fun b => l.contains b) = true) := by
  intro n
  induction n with
  | zero =>
    intro s hs
    obtain rfl := List.eq_nil_of_length_eq_zero hs
    simp [trimL, trimR]
  | succ n IH =>
  intro s hs
  unfold trimL
  rw [dropWhile_nil]
  rcases List.eq_nil_or_concat s with rfl | ⟨u, b, rfl⟩
  · simp [trimR]
  · rw [List.concat_eq_append, trimR_snoc]
    split
    · rename_i hb
      have ih := IH u (by simpa using hs)
      unfold trimL at ih
      rw [dropWhile_nil] at ih
      rw [ih, List.all_append]
      simp only [List.all_cons, List.all_nil, hb, Bool.and_true]
    · rfl
theorem trim_nil (l s : List UInt8) : trimL l (trimR l s) = [] ↔ s.all (fun b => l.contains b) = true := trim_nilN l _ s rfl
def entryOK (s : List UInt8) : Bool := within s.length 1 40 && s.all eB
def zSet : D := .st (ofL (List.replicate 256 (D.bool false)))
theorem setD_noOwn (l : List UInt8) : (setD l).noOwn = true := dl_noOwn (f := D.bool) (fun _ => rfl) (setL l)
theorem setD_unown (l : List UInt8) : (setD l).unown = setD l := by
  show D.st (dl D.bool (setL l)).unown = _
  rw [dl_unown (fun _ => rfl)]; rfl
theorem bools_size : ∀ L : List Bool, (dl D.bool L).size = L.length
  | [] => rfl
  | b :: L => by
    have := bools_size L
    show 1 + (dl D.bool L).size = L.length + 1
    omega
theorem setD_size (l : List UInt8) : (setD l).size = 256 := by
  show (dl D.bool (setL l)).size = 256
  rw [bools_size]; simp [setL]
theorem trim_fn (s : List UInt8) (h0 : 0 < s.length) (hl : s.length ≤ 1000) : Fn prog 226 [.str s, .str cutSet] (fun rs => rs = [.str (trimL cutSet (trimR cutSet s))]) := by
  have hM := makeSet_fn cutSet (by decide) (by decide)
  have hR := trimR_fn cutSet s (by omega)
  have hrl : (trimR cutSet s).length ≤ s.length := by
    unfold trimR
    have := (List.dropWhile_sublist (p := fun b => cutSet.contains b) (l := s.reverse)).length_le
    simpa using this
  have hL := trimL_fn cutSet (trimR cutSet s) (by omega)
  have d1 : decide (s = []) = false := decide_eq_false (fun h => by rw [h] at h0; simp at h0)
  have d2 : decide (cutSet = []) = false := rfl
  have d3 : decide ((cutSet.length : Int) = 1) = false := rfl
  have n1 : (setD cutSet).noOwn = true := setD_noOwn _
  have n2 : (setD cutSet).isV = true := rfl
  have n3 := setD_size cutSet
  have n4 : (setD cutSet).unown = setD cutSet := setD_unown _
  have hz : D.st (ofL (List.replicate 256 (D.bool false))) = zSet := rfl
  have n5 : zSet.size = 256 := rfl
  refine Fn_ofg (ps := [[1, 1, 1, 0, 1, 1, 0, 0]]) (fn := f226) (by exact func226) c226 r226 (n := 43) (by rfl) (rv := [.tmp 4]) (by rfl) (by simp) ?_
  unfold m226
  try simp only [wQ]
  simp only [ghAll, ghAt]
  rw [hz]
  generalize zSet = Z at n5
  repeat' (first | (simp only [onC_true, d1, d2, d3, n1, n2, n3, n5, ↓wA, ↓wC, wB, frzBE, frzBS, reduceEqDiff, reduceAdd, reduceSub, reduceIte, reduceCtorEq, Nat.reduceBEq, reduceLT]) | (refine call_det (hM) rfl rfl ?_) | (refine callP_det (hM) rfl rfl ?_) | ((first | apply execG_split | apply execC_split | apply onPick_split) <;> intro h <;> try simp only [h]))
  refine exec_gh1 (frzB 0 rfl) ?_
  repeat' (first | (simp only [onC_true, n4, ↓wA, ↓wC, wB, frzBE, frzBS, reduceEqDiff, reduceAdd, reduceSub, reduceIte, reduceCtorEq, Nat.reduceBEq, reduceLT]) | (refine call_det (hR) rfl rfl ?_) | (refine callP_det (hR) rfl rfl ?_) | (refine call_det (hL) rfl rfl ?_) | (refine callP_det (hL) rfl rfl ?_) | ((first | apply execG_split | apply execC_split | apply onPick_split) <;> intro h <;> try simp only [h]))
  all_goals trace_state
end Go.Pe.Tryz
set_option maxRecDepth 100000
set_option maxHeartbeats 4000000
set_option linter.all false
namespace Go.Pe.Tryz
open Nat (reduceEqDiff reduceAdd reduceSub reduceLT)
open Go.Proofs.Tryz
theorem within_len (n : Nat) : within (n : Int) 1 40 = true → 0 < n ∧ n ≤ 40 := by
  intro h
  simp only [within, Bool.and_eq_true, decide_eq_true_eq] at h
  omega
theorem isEntry_fn (s : List UInt8) : Fn prog 184 [.str s] (fun rs => rs = [.bool (entryOK s)]) := by
  unfold entryOK
  cases hw : within (s.length : Int) 1 40 with
  | false =>
    have hW := within_fn (s.length : Int) 1 40
    rw [hw] at hW
    refine Fn_of' (fn := f184) (by exact func184) c184 r184 (n := 11) (by rfl) (rv := [.tmp 2]) (by rfl) (by simp) ?_
    unfold m184
    try simp only [wQ]
    repeat' (first | (simp only [↓wA, ↓wC, wB, frzBE, frzBS, reduceEqDiff, reduceAdd, reduceSub, reduceIte, reduceCtorEq, Nat.reduceBEq, reduceLT]) | (refine call_det (hW) rfl rfl ?_) | (refine callP_det (hW) rfl rfl ?_) | ((first | apply execG_split | apply execC_split | apply onPick_split) <;> intro h <;> try simp only [h]))
    all_goals rfl
  | true =>
    have hW := within_fn (s.length : Int) 1 40
    rw [hw] at hW
    have hl := within_len _ hw
    have hT := trim_fn s hl.1 (by omega)
    have he : decide (trimL cutSet (trimR cutSet s) = []) = s.all eB := by
      have h1 := trim_nil cutSet s
      have h2 : (s.all fun b => cutSet.contains b) = s.all eB := by
        congr 1
        funext b
        exact cut_eB b
      rw [h2] at h1
      cases hb : s.all eB with
      | true => exact decide_eq_true (h1.2 hb)
      | false => exact decide_eq_false (fun h => by rw [h1.1 h] at hb; cases hb)
    simp only [cutSet] at hT he
    refine Fn_of' (fn := f184) (by exact func184) c184 r184 (n := 11) (by rfl) (rv := [.tmp 2]) (by rfl) (by simp) ?_
    unfold m184
    try simp only [wQ]
    repeat' (first | (simp only [↓wA, ↓wC, wB, frzBE, frzBS, reduceEqDiff, reduceAdd, reduceSub, reduceIte, reduceCtorEq, Nat.reduceBEq, reduceLT]) | (refine call_det (hW) rfl rfl ?_) | (refine callP_det (hW) rfl rfl ?_) | (refine call_det (hT) rfl rfl ?_) | (refine callP_det (hT) rfl rfl ?_) | ((first | apply execG_split | apply execC_split | apply onPick_split) <;> intro h <;> try simp only [h]))
    all_goals exact congrArg (fun b => [D.bool b]) he
theorem l15Letter_fn (b : UInt8) : Fn prog 251 [.int .u8 (b.toNat : Int)] (fun rs => rs = [.bool (within (b.toNat : Int) 97 122)]) := by
  refine Fn_of' (fn := f251) (by exact func251) c251 r251 (n := 9) (by rfl) (rv := [.tmp 2]) (by rfl) (by simp) ?_
  unfold m251
  try simp only [wQ]
  repeat' (first | (simp only [↓wA, ↓wC, wB, frzBE, frzBS, reduceEqDiff, reduceAdd, reduceSub, reduceIte, reduceCtorEq, Nat.reduceBEq, reduceLT]) | ((first | apply execG_split | apply execC_split | apply onPick_split) <;> intro h <;> try simp only [h]))
  all_goals first | (simp_all [within]; done) | (simp_all [within]; intros; omega)
theorem l16Entry_fn (s : List UInt8) (hl : s.length ≤ 1048576) : Fn prog 223 [.str s] (fun rs => rs = [.bool (entryOK s)]) := by
  have hW := l1In_fn (s.length : Int) 1 40
  unfold entryOK
  refine Fn_of' (fn := f223) (by exact func223) c223 r223 (n := 37) (by rfl) (rv := [.tmp 2]) (by rfl) (by simp) ?_
  unfold m223
  try simp only [wQ]
  repeat' (first | (simp only [onC_true, ↓wA, ↓wC, wB, frzBE, frzBS, reduceEqDiff, reduceAdd, reduceSub, reduceIte, reduceCtorEq, Nat.reduceBEq, reduceLT]) | ((first | apply execG_split | apply execC_split | apply onPick_split) <;> intro h <;> try simp only [h]))
  refine exec_range s.length (fun i : Nat => ⟨[(0, .d (.str s)), (3, .d (.int .i64 i))], []⟩) (fun i => ∀ j b, j < i → s[j]? = some b → eB b = true) (weak_of _ rfl ⟨⟨rfl, rfl⟩, ⟨rfl, rfl⟩, trivial⟩) (fun j r hj => by omega) ?_ ?_
  · intro i hlt hinv hd h0
    obtain ⟨b, hb⟩ := get_lt hlt
    have hL := l15Letter_fn b
    have hbad : eB b = false → (within (s.length : Int) 1 40 && s.all eB) = false := by
      intro h
      have : s.all eB = false := List.all_eq_false.2 ⟨b, List.mem_of_getElem? hb, by rw [h]; simp⟩
      rw [this, Bool.and_false]
    have hgood : eB b = true → ∀ j c, j < i + 1 → s[j]? = some c → eB c = true := by
      intro h j c hj hc
      by_cases e : j = i
      · subst e; rw [hb] at hc; injection hc with hc; rw [← hc]; exact h
      · exact hinv j c (by omega) hc
    cases hlt1 : within (b.toNat : Int) 97 122 with
    | true =>
      rw [hlt1] at hL
      have hg := hgood (by unfold eB; rw [hlt1]; rfl)
      repeat' (first | (simp only [onC_true, hd, h0, hb, Int.toNat_natCast, ↓wA, ↓wC, wB, frzBE, frzBS, reduceEqDiff, reduceAdd, reduceSub, reduceIte, reduceCtorEq, Nat.reduceBEq, reduceLT]) | (refine call_det (hL) rfl rfl ?_) | (refine callP_det (hL) rfl rfl ?_) | (with_reducible refine onI_bare ?_ ?_; focus (simp only [InR]; omega)) | ((first | apply execG_split | apply execC_split | apply onPick_split) <;> intro h <;> try simp only [h]))
      all_goals exact next_range (weak_of _ rfl ⟨⟨rfl, rfl⟩, ⟨rfl, rfl⟩, trivial⟩) hlt hg
    | false =>
      rw [hlt1] at hL
      repeat' (first | (simp only [onC_true, hd, h0, hb, Int.toNat_natCast, ↓wA, ↓wC, wB, frzBE, frzBS, reduceEqDiff, reduceAdd, reduceSub, reduceIte, reduceCtorEq, Nat.reduceBEq, reduceLT]) | (refine call_det (hL) rfl rfl ?_) | (refine callP_det (hL) rfl rfl ?_) | (with_reducible refine onI_bare ?_ ?_; focus (simp only [InR]; omega)) | ((first | apply execG_split | apply execC_split | apply onPick_split) <;> intro h <;> try simp only [h]))
      all_goals first
        | (refine next_range (weak_of _ rfl ⟨⟨rfl, rfl⟩, ⟨rfl, rfl⟩, trivial⟩) hlt (hgood ?_); focus (clear hL hW hgood hbad; simp_all [eB, within]; done))
        | (refine (congrArg (fun x => [D.bool x]) (hbad ?_)).symm; focus (clear hL hW hgood hbad; simp_all [eB, within]; done))
        | (refine (congrArg (fun x => [D.bool x]) (hbad ?_)).symm; focus (clear hL hW hgood hbad hinv; simp_all [eB, within]; intros; omega))
        | (refine (congrArg (fun x => [D.bool x]) (hbad ?_)).symm; focus (clear hL hW hgood hbad hinv; simp_all [eB, within]; omega))
        | trace_state
  · intro hinv hd
    have : s.all eB = true := List.all_eq_true.2 fun b hb => by
      obtain ⟨j, hj⟩ := List.getElem?_of_mem hb
      exact hinv j b (lt_of_get hj) hj
    rw [this, Bool.and_true]
    repeat' (first | (simp only [onC_true, hd, ↓wA, ↓wC, wB, frzBE, frzBS, reduceEqDiff, reduceAdd, reduceSub, reduceIte, reduceCtorEq, Nat.reduceBEq, reduceLT]) | (refine call_det (hW) rfl rfl ?_) | (refine callP_det (hW) rfl rfl ?_) | ((first | apply execG_split | apply execC_split | apply onPick_split) <;> intro h <;> try simp only [h]))
def ledgerOK (L : List (List UInt8)) : Bool := within L.length 1 8 && L.all entryOK
theorem cloEntry_fn (s : List UInt8) : Fn prog 183 [.str s] (fun rs => rs = [.bool (!entryOK s)]) := by
  refine Fn_of' (fn := f183) (by exact func183) c183 r183 (n := 6) (by rfl) (rv := [.tmp 2]) (by rfl) (by simp) ?_
  unfold m183
  try simp only [wQ]
  repeat' (first | (simp only [↓wA, ↓wC, wB, frzBE, frzBS, reduceEqDiff, reduceAdd, reduceSub, reduceIte, reduceCtorEq, Nat.reduceBEq, reduceLT]) | (refine call_det (isEntry_fn s) rfl rfl ?_) | (refine callP_det (isEntry_fn s) rfl rfl ?_) | ((first | apply execG_split | apply execC_split | apply onPick_split) <;> intro h <;> try simp only [h]))
theorem indexFuncT_fn (p : (List UInt8) → Bool) (g : Nat) (c : D) (xs : List (List UInt8)) (hc : c.caps = true) (he : enterOK prog.P g = true) (hlen : xs.length ≤ 1048576) (hp : ∀ x ∈ xs, Fn prog g (D.str x :: c.list) (fun rs => rs = [.bool (p x)])) :
    Fn prog 225 [.sl false 1 (dl D.str xs), .clo g c] (fun rs => rs = [.int .i64 (idxOf p xs)]) := by
  refine Fn_of' (fn := f225) (by exact func225) c225 r225 (n := 19) (by rfl) (rv := [.tmp 4]) (by rfl) (by simp) ?_
  unfold m225
  try simp only [wQ]
  simp only [dl_len, ↓wA, ↓wC, wB, frzBE, frzBS, reduceEqDiff, reduceAdd, reduceSub, reduceIte, reduceCtorEq, Nat.reduceBEq, reduceLT]
  refine exec_range xs.length (fun i : Nat => ⟨[(0, .d (.sl false 1 (dl D.str xs))), (1, .d (.clo g c)), (7, .d (.int .i64 xs.length)), (8, .d (.int .i64 i))], []⟩) (fun i => ∀ j r, j < i → xs[j]? = some r → p r = false) (weak_of _ rfl ⟨⟨rfl, rfl⟩, ⟨rfl, rfl⟩, ⟨rfl, rfl⟩, ⟨rfl, rfl⟩, trivial⟩) (fun j r hj => by omega) ?_ ?_
  · intro i hlt hinv hd h0
    obtain ⟨r, hr⟩ := get_lt hlt
    have hcl := hp r (List.mem_of_getElem? hr)
    simp only [hd, h0, dl_nth, Int.toNat_natCast, hr, Option.map_some, onC_true, ↓rd_str, ↓wA, ↓wC, wB, frzBE, frzBS, reduceEqDiff, reduceAdd, reduceSub, reduceIte, reduceCtorEq, Nat.reduceBEq, reduceLT]
    refine callW_det (ds := [D.str r]) hcl he hc (by simp [argsD, argD, valOf, D.str]) rfl ?_
    cases hpr : p r with
    | true =>
      simp only [↓wA, ↓wC, wB, frzBE, frzBS, reduceEqDiff, reduceAdd, reduceSub, reduceIte, reduceCtorEq, Nat.reduceBEq, reduceLT]
      rw [idxOf_hit hr hpr hinv]
    | false =>
      simp only [↓wA, ↓wC, wB, frzBE, frzBS, reduceEqDiff, reduceAdd, reduceSub, reduceIte, reduceCtorEq, Nat.reduceBEq, reduceLT]
      refine onI_bare (by simp only [InR]; omega) ?_
      refine next_range (weak_of _ rfl ⟨⟨rfl, rfl⟩, ⟨rfl, rfl⟩, ⟨rfl, rfl⟩, ⟨rfl, rfl⟩, trivial⟩) hlt fun j s hj hs => ?_
      by_cases e : j = i
      · subst e; rw [hr] at hs; injection hs with hs; rw [← hs]; exact hpr
      · exact hinv j s (by omega) hs
  · intro hinv hd
    simp only [hd, ↓wA, ↓wC, wB, frzBE, frzBS, reduceEqDiff, reduceAdd, reduceSub, reduceIte, reduceCtorEq, Nat.reduceBEq, reduceLT]
    rw [idxOf_none fun j r hj => hinv j r (lt_of_get hj) hj]
theorem containsFuncT_fn (p : (List UInt8) → Bool) (g : Nat) (c : D) (xs : List (List UInt8)) (hc : c.caps = true) (he : enterOK prog.P g = true) (hlen : xs.length ≤ 1048576) (hp : ∀ x ∈ xs, Fn prog g (D.str x :: c.list) (fun rs => rs = [.bool (p x)])) :
    Fn prog 182 [.sl false 1 (dl D.str xs), .clo g c] (fun rs => rs = [.bool (xs.any p)]) := by
  refine Fn_of' (fn := f182) (by exact func182) c182 r182 (n := 9) (by rfl) (rv := [.tmp 4]) (by rfl) (by simp) ?_
  unfold m182
  try simp only [wQ]
  simp only [↓wA, ↓wC, wB, frzBE, frzBS, reduceEqDiff, reduceAdd, reduceSub, reduceIte, reduceCtorEq, Nat.reduceBEq, reduceLT]
  refine call_det (indexFuncT_fn p g c xs hc he hlen hp) rfl rfl ?_
  simp only [idxOf_any, ↓wA, ↓wC, wB, frzBE, frzBS, reduceEqDiff, reduceAdd, reduceSub, reduceIte, reduceCtorEq, Nat.reduceBEq, reduceLT]
theorem isLedger_fn (L : List (List UInt8)) (hl : L.length ≤ 1048576) : Fn prog 116 [.sl false 1 (dl D.str L)] (fun rs => rs = [.bool (ledgerOK L)]) := by
  have hW := within_fn (L.length : Int) 1 8
  have hC := containsFuncT_fn (fun s => !entryOK s) 183 .nil L rfl en183 hl (fun s _ => cloEntry_fn s)
  rw [any_not] at hC
  unfold ledgerOK
  cases hw : within (L.length : Int) 1 8 with
  | false =>
    rw [hw] at hW
    refine Fn_of' (fn := f116) (by exact func116) c116 r116 (n := 11) (by rfl) (rv := [.tmp 2]) (by rfl) (by simp) ?_
    unfold m116
    try simp only [wQ]
    repeat' (first | (simp only [dl_len, ↓wA, ↓wC, wB, frzBE, frzBS, reduceEqDiff, reduceAdd, reduceSub, reduceIte, reduceCtorEq, Nat.reduceBEq, reduceLT]) | (refine call_det (hW) rfl rfl ?_) | (refine callP_det (hW) rfl rfl ?_) | ((first | apply execG_split | apply execC_split | apply onPick_split) <;> intro h <;> try simp only [h]))
    all_goals rfl
  | true =>
    rw [hw] at hW
    refine Fn_of' (fn := f116) (by exact func116) c116 r116 (n := 11) (by rfl) (rv := [.tmp 2]) (by rfl) (by simp) ?_
    unfold m116
    try simp only [wQ]
    repeat' (first | (simp only [dl_len, ↓wA, ↓wC, wB, frzBE, frzBS, reduceEqDiff, reduceAdd, reduceSub, reduceIte, reduceCtorEq, Nat.reduceBEq, reduceLT]) | (refine call_det (hW) rfl rfl ?_) | (refine callP_det (hW) rfl rfl ?_) | (refine call_det (hC) rfl rfl ?_) | (refine callP_det (hC) rfl rfl ?_) | ((first | apply execG_split | apply execC_split | apply onPick_split) <;> intro h <;> try simp only [h]))
    all_goals simp
theorem l16Good_fn (L : List (List UInt8)) (hl : L.length ≤ 1048576) (hx : ∀ s ∈ L, s.length ≤ 1048576) : Fn prog 176 [.sl false 1 (dl D.str L)] (fun rs => rs = [.bool (ledgerOK L)]) := by
  have hW := l1In_fn (L.length : Int) 1 8
  unfold ledgerOK
  refine Fn_of' (fn := f176) (by exact func176) c176 r176 (n := 19) (by rfl) (rv := [.tmp 2]) (by rfl) (by simp) ?_
  unfold m176
  try simp only [wQ]
  repeat' (first | (simp only [onC_true, ↓wA, ↓wC, wB, frzBE, frzBS, reduceEqDiff, reduceAdd, reduceSub, reduceIte, reduceCtorEq, Nat.reduceBEq, reduceLT]) | ((first | apply execG_split | apply execC_split | apply onPick_split) <;> intro h <;> try simp only [h]))
  refine exec_range L.length (fun i : Nat => ⟨[(0, .d (.sl false 1 (dl D.str L))), (3, .d (.int .i64 i))], []⟩) (fun i => ∀ j b, j < i → L[j]? = some b → entryOK b = true) (weak_of _ rfl ⟨⟨rfl, rfl⟩, ⟨rfl, rfl⟩, trivial⟩) (fun j r hj => by omega) ?_ ?_
  · intro i hlt hinv hd h0
    obtain ⟨b, hb⟩ := get_lt hlt
    have hE := l16Entry_fn b (hx b (List.mem_of_getElem? hb))
    cases hbo : entryOK b with
    | false =>
      rw [hbo] at hE
      have : L.all entryOK = false := List.all_eq_false.2 ⟨b, List.mem_of_getElem? hb, by rw [hbo]; simp⟩
      rw [this, Bool.and_false]
      repeat' (first | (simp only [onC_true, dl_len, dl_nth, hd, h0, hb, Int.toNat_natCast, Option.map_some, ↓wA, ↓wC, wB, frzBE, frzBS, reduceEqDiff, reduceAdd, reduceSub, reduceIte, reduceCtorEq, Nat.reduceBEq, reduceLT]) | (refine call_det (hE) rfl rfl ?_) | (refine callP_det (hE) rfl rfl ?_) | (with_reducible refine onI_bare ?_ ?_; focus (simp only [InR]; omega)) | ((first | apply execG_split | apply execC_split | apply onPick_split) <;> intro h <;> try simp only [h]))
    | true =>
      rw [hbo] at hE
      repeat' (first | (simp only [onC_true, dl_len, dl_nth, hd, h0, hb, Int.toNat_natCast, Option.map_some, ↓wA, ↓wC, wB, frzBE, frzBS, reduceEqDiff, reduceAdd, reduceSub, reduceIte, reduceCtorEq, Nat.reduceBEq, reduceLT]) | (refine call_det (hE) rfl rfl ?_) | (refine callP_det (hE) rfl rfl ?_) | (with_reducible refine onI_bare ?_ ?_; focus (simp only [InR]; omega)) | ((first | apply execG_split | apply execC_split | apply onPick_split) <;> intro h <;> try simp only [h]))
      refine next_range (weak_of _ rfl ⟨⟨rfl, rfl⟩, ⟨rfl, rfl⟩, trivial⟩) hlt fun j c hj hc => ?_
      by_cases e : j = i
      · subst e; rw [hb] at hc; injection hc with hc; rw [← hc]; exact hbo
      · exact hinv j c (by omega) hc
  · intro hinv hd
    have : L.all entryOK = true := List.all_eq_true.2 fun b hb => by
      obtain ⟨j, hj⟩ := List.getElem?_of_mem hb
      exact hinv j b (lt_of_get hj) hj
    rw [this, Bool.and_true]
    repeat' (first | (simp only [onC_true, dl_len, hd, ↓wA, ↓wC, wB, frzBE, frzBS, reduceEqDiff, reduceAdd, reduceSub, reduceIte, reduceCtorEq, Nat.reduceBEq, reduceLT]) | (refine call_det (hW) rfl rfl ?_) | (refine callP_det (hW) rfl rfl ?_) | ((first | apply execG_split | apply execC_split | apply onPick_split) <;> intro h <;> try simp only [h]))
def caseOK (x : Cs) : Bool := within x.i 1 999 && within x.a 1 3 && within x.d 0 20000 && decide ((x.h.length : Int) ≤ 5) && (x.h.all (fun n => within n 1 9) && rises x.h)
theorem isRecordId_fn (n : Int) : Fn prog 185 [.int .i64 n] (fun rs => rs = [.bool (within n 1 999)]) := by
  refine Fn_of' (fn := f185) (by exact func185) c185 r185 (n := 5) (by rfl) (rv := [.tmp 2]) (by rfl) (by simp) ?_
  unfold m185
  try simp only [wQ]
  repeat' (first | (simp only [↓wA, ↓wC, wB, frzBE, frzBS, reduceEqDiff, reduceAdd, reduceSub, reduceIte, reduceCtorEq, Nat.reduceBEq, reduceLT]) | (refine call_det (within_fn _ _ _) rfl rfl ?_) | (refine callP_det (within_fn _ _ _) rfl rfl ?_) | ((first | apply execG_split | apply execC_split | apply onPick_split) <;> intro h <;> try simp only [h]))
theorem isAct_fn (n : Int) : Fn prog 186 [.int .i64 n] (fun rs => rs = [.bool (within n 1 3)]) := by
  refine Fn_of' (fn := f186) (by exact func186) c186 r186 (n := 5) (by rfl) (rv := [.tmp 2]) (by rfl) (by simp) ?_
  unfold m186
  try simp only [wQ]
  repeat' (first | (simp only [↓wA, ↓wC, wB, frzBE, frzBS, reduceEqDiff, reduceAdd, reduceSub, reduceIte, reduceCtorEq, Nat.reduceBEq, reduceLT]) | (refine call_det (within_fn _ _ _) rfl rfl ?_) | (refine callP_det (within_fn _ _ _) rfl rfl ?_) | ((first | apply execG_split | apply execC_split | apply onPick_split) <;> intro h <;> try simp only [h]))
theorem isHoldNumber_fn (n : Int) : Fn prog 133 [.int .i64 n] (fun rs => rs = [.bool (within n 1 9)]) := by
  refine Fn_of' (fn := f133) (by exact func133) c133 r133 (n := 5) (by rfl) (rv := [.tmp 2]) (by rfl) (by simp) ?_
  unfold m133
  try simp only [wQ]
  repeat' (first | (simp only [↓wA, ↓wC, wB, frzBE, frzBS, reduceEqDiff, reduceAdd, reduceSub, reduceIte, reduceCtorEq, Nat.reduceBEq, reduceLT]) | (refine call_det (within_fn _ _ _) rfl rfl ?_) | (refine callP_det (within_fn _ _ _) rfl rfl ?_) | ((first | apply execG_split | apply execC_split | apply onPick_split) <;> intro h <;> try simp only [h]))
theorem cloCase_fn (n : Int) : Fn prog 189 [.int .i64 n] (fun rs => rs = [.bool (!within n 1 9)]) := by
  refine Fn_of' (fn := f189) (by exact func189) c189 r189 (n := 6) (by rfl) (rv := [.tmp 2]) (by rfl) (by simp) ?_
  unfold m189
  try simp only [wQ]
  repeat' (first | (simp only [↓wA, ↓wC, wB, frzBE, frzBS, reduceEqDiff, reduceAdd, reduceSub, reduceIte, reduceCtorEq, Nat.reduceBEq, reduceLT]) | (refine call_det (isHoldNumber_fn n) rfl rfl ?_) | (refine callP_det (isHoldNumber_fn n) rfl rfl ?_) | ((first | apply execG_split | apply execC_split | apply onPick_split) <;> intro h <;> try simp only [h]))
theorem isCase_fn (x : Cs) (hx : x.ok0) : Fn prog 117 [x.s] (fun rs => rs = [.bool (caseOK x)]) := by
  have hR := isRecordId_fn x.i
  have hA := isAct_fn x.a
  have hD := isDay_fn x.d
  have hS := areRising_fn x.h hx
  have hC := containsFuncI_fn (fun n => !within n 1 9) 189 .nil x.h rfl en189 hx (fun n _ => cloCase_fn n)
  rw [any_not] at hC
  unfold caseOK
  generalize within x.i 1 999 = b1 at *
  generalize within x.a 1 3 = b2 at *
  generalize within x.d 0 20000 = b3 at *
  generalize (x.h.all fun n => within n 1 9) = b4 at *
  generalize rises x.h = b5 at *
  refine Fn_of' (fn := f117) (by exact func117) c117 r117 (n := 33) (by rfl) (rv := [.tmp 2]) (by rfl) (by simp) ?_
  unfold m117
  try simp only [wQ]
  simp only [Cs.s, Cs.p]
  repeat' (first | (simp only [ints_noOwn, onC_true, dl_len, ↓wA, ↓wC, wB, frzBE, frzBS, reduceEqDiff, reduceAdd, reduceSub, reduceIte, reduceCtorEq, Nat.reduceBEq, reduceLT]) | (refine call_det (hR) rfl rfl ?_) | (refine callP_det (hR) rfl rfl ?_) | (refine call_det (hA) rfl rfl ?_) | (refine callP_det (hA) rfl rfl ?_) | (refine call_det (hD) rfl rfl ?_) | (refine callP_det (hD) rfl rfl ?_) | (refine call_det (hS) rfl rfl ?_) | (refine callP_det (hS) rfl rfl ?_) | (refine call_det (hC) rfl rfl ?_) | (refine callP_det (hC) rfl rfl ?_) | ((first | apply execG_split | apply execC_split | apply onPick_split) <;> intro h <;> try simp only [h]))
  all_goals (clear hR hA hD hS hC; simp_all)
theorem l25Case_fn (x : Cs) (hx : x.ok0) : Fn prog 177 [x.s] (fun rs => rs = [.bool (caseOK x)]) := by
  have hR := l1In_fn x.i 1 999
  have hA := l1In_fn x.a 1 3
  have hD := l2Day_fn x.d
  have hS := l1Rising_fn x.h 1 9 hx
  unfold caseOK
  generalize within x.i 1 999 = b1 at *
  generalize within x.a 1 3 = b2 at *
  generalize within x.d 0 20000 = b3 at *
  generalize ((x.h.all fun n => within n 1 9) && rises x.h) = b4 at *
  refine Fn_of' (fn := f177) (by exact func177) c177 r177 (n := 27) (by rfl) (rv := [.tmp 2]) (by rfl) (by simp) ?_
  unfold m177
  try simp only [wQ]
  simp only [Cs.s, Cs.p]
  repeat' (first | (simp only [ints_noOwn, onC_true, dl_len, ↓wA, ↓wC, wB, frzBE, frzBS, reduceEqDiff, reduceAdd, reduceSub, reduceIte, reduceCtorEq, Nat.reduceBEq, reduceLT]) | (refine call_det (hR) rfl rfl ?_) | (refine callP_det (hR) rfl rfl ?_) | (refine call_det (hA) rfl rfl ?_) | (refine callP_det (hA) rfl rfl ?_) | (refine call_det (hD) rfl rfl ?_) | (refine callP_det (hD) rfl rfl ?_) | (refine call_det (hS) rfl rfl ?_) | (refine callP_det (hS) rfl rfl ?_) | ((first | apply execG_split | apply execC_split | apply onPick_split) <;> intro h <;> try simp only [h]))
  all_goals (clear hR hA hD hS; simp_all)
end Go.Pe.Tryz
set_option maxRecDepth 100000
set_option maxHeartbeats 4000000
set_option linter.all false
namespace Go.Pe.Tryz
open Nat (reduceEqDiff reduceAdd reduceSub reduceLT)
open Go.Proofs.Tryz
theorem fa_cs0 {x : Cs} {K : SV → Prop} : stepFa 0 0 (.d (.ptr x.s)) K = K (.d (.ptr (.int .i64 x.i))) := by simp [Cs.s, Cs.p, stepFa, D.pre, D.nth, D.size]
theorem fa_cs1 {x : Cs} {K : SV → Prop} : stepFa 1 1 (.d (.ptr x.s)) K = K (.d (.ptr (.int .i64 x.a))) := by simp [Cs.s, Cs.p, stepFa, D.pre, D.nth, D.size]
theorem fa_cs2 {x : Cs} {K : SV → Prop} : stepFa 2 2 (.d (.ptr x.s)) K = K (.d (.ptr (.int .i64 x.d))) := by simp [Cs.s, Cs.p, stepFa, D.pre, D.nth, D.size]
theorem fa_cs3 {x : Cs} {K : SV → Prop} : stepFa 3 3 (.d (.ptr x.s)) K = K (.d (.ptr (.sl false 1 (dl iD x.h)))) := by simp [Cs.s, Cs.p, stepFa, D.pre, D.nth, D.size]
theorem doff_s0 {x : Cs} : doff [0] x.s = 0 := rfl
theorem doff_s1 {x : Cs} : doff [1] x.s = 1 := rfl
theorem doff_s2 {x : Cs} : doff [2] x.s = 2 := rfl
theorem doff_s3 {x : Cs} : doff [3] x.s = 3 := rfl
theorem dget_s0 {x : Cs} : dget [0] x.s = some (.int .i64 x.i) := rfl
theorem dget_s1 {x : Cs} : dget [1] x.s = some (.int .i64 x.a) := rfl
theorem dget_s2 {x : Cs} : dget [2] x.s = some (.int .i64 x.d) := rfl
theorem dget_s3 {x : Cs} : dget [3] x.s = some (.sl false 1 (dl iD x.h)) := rfl
theorem Off.s_isV (o : Off) : o.s.isV = true := rfl
theorem Off.s_size (o : Off) : o.s.size = 5 := rfl
theorem Off.o_isV (o : Off) : o.o.isV = true := rfl
theorem Off.o_size (o : Off) : o.o.size = 5 := rfl
def ltC (xs : List Cs) (i : Nat) (x : Cs) : Bool := match i with
  | 0 => true
  | k + 1 => match xs[k]? with
    | some y => decide (y.i < x.i)
    | none => true
def stepC (xs : List Cs) (i : Nat) : Bool := match xs[i]? with
  | some x => caseOK x && ltC xs i x
  | none => false
theorem stepC_at {xs : List Cs} {i : Nat} {x : Cs} (hr : xs[i]? = some x) : stepC xs i = (caseOK x && ltC xs i x) := by
  unfold stepC; rw [hr]
def casesOK (xs : List Cs) : Bool := (List.range xs.length).all (stepC xs)
theorem casesOK_bad {xs : List Cs} {i : Nat} (hi : i < xs.length) (h : stepC xs i = false) : casesOK xs = false := by
  refine List.all_eq_false.2 ⟨i, List.mem_range.2 hi, by rw [h]; simp⟩
theorem casesOK_all {xs : List Cs} (h : ∀ j, j < xs.length → stepC xs j = true) : casesOK xs = true :=
  List.all_eq_true.2 fun j hj => h j (List.mem_range.1 hj)
def ledOK (L : List (List UInt8)) : Bool := !decide ((0 : Int) < (L.length : Int)) || ledgerOK L
def headOK (o : Off) : Bool := within o.day 0 20000 && decide ((o.cs.length : Int) ≤ 6) && within o.kept 0 999 && within o.moved 0 999 && ledOK o.led
def offOK (o : Off) : Bool := headOK o && casesOK o.cs
theorem prevC {xs : List Cs} {i : Nat} {x : Cs} (hlt : i < xs.length) : (decide ((0 : Int) < (i : Int)) = false ∧ ltC xs i x = true) ∨ ∃ y, decide ((0 : Int) < (i : Int)) = true ∧ (0 : Int) ≤ (i : Int) - 1 ∧ xs[((i : Int) - 1).toNat]? = some y ∧ decide (x.i ≤ y.i) = !ltC xs i x := by
  cases i with
  | zero => exact .inl ⟨rfl, rfl⟩
  | succ k =>
    obtain ⟨y, hy⟩ := get_lt (show k < xs.length by omega)
    refine .inr ⟨y, decide_eq_true (by omega), by omega, ?_, ?_⟩
    · rw [show (((k + 1 : Nat) : Int) - 1).toNat = k by omega]; exact hy
    · have : ltC xs (k + 1) x = decide (y.i < x.i) := by simp only [ltC, hy]
      rw [this]
      by_cases h : y.i < x.i
      · rw [decide_eq_true h, decide_eq_false (by omega)]; rfl
      · rw [decide_eq_false h, decide_eq_true (by omega)]; rfl
theorem isOffice_fn (o : Off) (ho : o.ok0) : Fn prog 40 [o.s] (fun rs => rs = [.bool (offOK o)]) := by
  have hDay := isDay_fn o.day
  have hK := within_fn o.kept 0 999
  have hM := within_fn o.moved 0 999
  have hL := isLedger_fn o.led ho.2.1
  have hlen := ho.1.1
  have hh : headOK o = (within o.day 0 20000 && decide ((o.cs.length : Int) ≤ 6) && within o.kept 0 999 && within o.moved 0 999 && ledOK o.led) := rfl
  unfold ledOK at hh
  unfold offOK
  have body : headOK o = true → Fn prog 40 [o.s] (fun rs => rs = [.bool (casesOK o.cs)]) := by
    intro hho
    rw [hh] at hho
    simp only [Bool.and_eq_true] at hho
    obtain ⟨⟨⟨⟨q1, q2⟩, q3⟩, q4⟩, q5⟩ := hho
    rw [q1] at hDay
    rw [q3] at hK
    rw [q4] at hM
    have q2' := of_decide_eq_true q2
    have e2 : decide ((6 : Int) < (o.cs.length : Int)) = false := decide_eq_false (by omega)
    generalize hlg : ledgerOK o.led = b5 at *
    refine Fn_of' (fn := f40) (by exact func40) c40 r40 (n := 67) (by rfl) (rv := [.tmp 2]) (by rfl) (by simp) ?_
    unfold m40
    try simp only [wQ]
    simp only [Off.s, offP]
    repeat' (first | (simp only [css_noOwn, strs_noOwn, onC_true, dl_len, e2, ↓wA, ↓wC, wB, frzBE, frzBS, reduceEqDiff, reduceAdd, reduceSub, reduceIte, reduceCtorEq, Nat.reduceBEq, reduceLT]) | (refine call_det (hDay) rfl rfl ?_) | (refine callP_det (hDay) rfl rfl ?_) | (refine call_det (hK) rfl rfl ?_) | (refine callP_det (hK) rfl rfl ?_) | (refine call_det (hM) rfl rfl ?_) | (refine callP_det (hM) rfl rfl ?_) | (refine call_det (hL) rfl rfl ?_) | (refine callP_det (hL) rfl rfl ?_) | ((first | apply execG_split | apply execC_split | apply onPick_split) <;> intro h <;> try simp only [h]))
    any_goals (exfalso; clear hDay hK hM hL; simp_all; done)
    all_goals
      refine exec_range o.cs.length (fun i : Nat => ⟨[(1, .ptr 0 0 []), (40, .d (.sl false 4 (dl Cs.s o.cs))), (41, .d (.int .i64 o.cs.length)), (42, .d (.int .i64 i))], [.box o.s]⟩) (fun i => ∀ j, j < i → stepC o.cs j = true) (weak_of _ rfl ⟨⟨rfl, rfl⟩, ⟨rfl, rfl⟩, ⟨rfl, rfl⟩, ⟨rfl, rfl⟩, trivial⟩) (fun j hj => by omega) ?_ ?_
      · intro i hlt hinv hd h0
        obtain ⟨x, hr⟩ := get_lt hlt
        have hst := stepC_at hr
        have hok := isCase_fn x (ho.1.2 x (List.mem_of_getElem? hr))
        simp only [Off.s, offP]
        rcases prevC (x := x) hlt with ⟨hg, hl⟩ | ⟨y, hg, h1, hy, hq⟩
        · rw [hl, Bool.and_true] at hst
          repeat' (first | (simp only [css_noOwn, strs_noOwn, dl_len, dl_nth, hd, h0, hg, Int.toNat_natCast, hr, Option.map_some, ↓rd_cs, Cs.s_noOwn, Cs.s_isV, Cs.s_size, Cs.s_unown, onC_true, ↓wA, ↓wC, wB, frzBE, frzBS, reduceEqDiff, reduceAdd, reduceSub, reduceIte, reduceCtorEq, Nat.reduceBEq, reduceLT]) | (refine call_det (hok) rfl rfl ?_) | (refine callP_det (hok) rfl rfl ?_) | (with_reducible refine onI_bare ?_ ?_; focus (simp only [InR]; omega)) | ((first | apply execG_split | apply execC_split | apply onPick_split) <;> intro h <;> try simp only [h]))
          all_goals first
            | (refine next_range (weak_of _ rfl ⟨⟨rfl, rfl⟩, ⟨rfl, rfl⟩, ⟨rfl, rfl⟩, ⟨rfl, rfl⟩, trivial⟩) hlt (all_upto hinv ?_); focus (clear hok; rw [hst]; simp_all; done))
            | (refine (congrArg (fun b => [D.bool b]) (casesOK_bad hlt ?_)).symm; focus (clear hok; rw [hst]; simp_all; done))
            | trace_state
        · repeat' (first | (simp only [css_noOwn, strs_noOwn, dl_len, dl_nth, hd, h0, hg, h1, hy, hq, Int.toNat_natCast, hr, Option.map_some, ↓rd_cs, ↓fa_cs0, doff_s0, dget_s0, Cs.s_noOwn, Cs.s_isV, Cs.s_size, Cs.s_unown, onC_true, ↓wA, ↓wC, wB, frzBE, frzBS, reduceEqDiff, reduceAdd, reduceSub, reduceIte, reduceCtorEq, Nat.reduceBEq, reduceLT]) | (refine call_det (hok) rfl rfl ?_) | (refine callP_det (hok) rfl rfl ?_) | (with_reducible refine onI_bare ?_ ?_; focus (simp only [InR]; omega)) | ((first | apply execG_split | apply execC_split | apply onPick_split) <;> intro h <;> try simp only [h]))
          all_goals first
            | (refine next_range (weak_of _ rfl ⟨⟨rfl, rfl⟩, ⟨rfl, rfl⟩, ⟨rfl, rfl⟩, ⟨rfl, rfl⟩, trivial⟩) hlt (all_upto hinv ?_); focus (clear hok; rw [hst]; simp_all; done))
            | (refine (congrArg (fun b => [D.bool b]) (casesOK_bad hlt ?_)).symm; focus (clear hok; rw [hst]; simp_all; done))
            | trace_state
      · intro hinv hd
        have hall := casesOK_all hinv
        rw [hall]
        simp only [Off.s, offP]
        repeat' (first | (simp only [css_noOwn, strs_noOwn, dl_len, hd, onC_true, ↓wA, ↓wC, wB, frzBE, frzBS, reduceEqDiff, reduceAdd, reduceSub, reduceIte, reduceCtorEq, Nat.reduceBEq, reduceLT]) | ((first | apply execG_split | apply execC_split | apply onPick_split) <;> intro h <;> try simp only [h]))
  cases hho : headOK o with
  | true => simpa using body hho
  | false =>
    rw [hh] at hho
    rw [Bool.false_and]
    generalize hlg : ledgerOK o.led = b5 at *
    generalize within o.day 0 20000 = b1 at *
    generalize within o.kept 0 999 = b3 at *
    generalize within o.moved 0 999 = b4 at *
    refine Fn_of' (fn := f40) (by exact func40) c40 r40 (n := 67) (by rfl) (rv := [.tmp 2]) (by rfl) (by simp) ?_
    unfold m40
    try simp only [wQ]
    simp only [Off.s, offP]
    repeat' (first | (simp only [css_noOwn, strs_noOwn, onC_true, dl_len, ↓wA, ↓wC, wB, frzBE, frzBS, reduceEqDiff, reduceAdd, reduceSub, reduceIte, reduceCtorEq, Nat.reduceBEq, reduceLT]) | (refine call_det (hDay) rfl rfl ?_) | (refine callP_det (hDay) rfl rfl ?_) | (refine call_det (hK) rfl rfl ?_) | (refine callP_det (hK) rfl rfl ?_) | (refine call_det (hM) rfl rfl ?_) | (refine callP_det (hM) rfl rfl ?_) | (refine call_det (hL) rfl rfl ?_) | (refine callP_det (hL) rfl rfl ?_) | ((first | apply execG_split | apply execC_split | apply onPick_split) <;> intro h <;> try simp only [h]))
    all_goals first
      | rfl
      | (exfalso; clear hDay hK hM hL body; simp_all; done)
      | (exfalso; clear hDay hK hM hL body; simp_all; omega)
theorem l25Good_fn (o : Off) (ho : o.ok0) : Fn prog 111 [o.s] (fun rs => rs = [.bool (offOK o)]) := by
  have hDay := l2Day_fn o.day
  have hK := l1In_fn o.kept 0 999
  have hM := l1In_fn o.moved 0 999
  have hL := l16Good_fn o.led ho.2.1 ho.2.2
  have hlen := ho.1.1
  have hh : headOK o = (within o.day 0 20000 && decide ((o.cs.length : Int) ≤ 6) && within o.kept 0 999 && within o.moved 0 999 && ledOK o.led) := rfl
  unfold ledOK at hh
  unfold offOK
  have body : headOK o = true → Fn prog 111 [o.s] (fun rs => rs = [.bool (casesOK o.cs)]) := by
    intro hho
    rw [hh] at hho
    simp only [Bool.and_eq_true] at hho
    obtain ⟨⟨⟨⟨q1, q2⟩, q3⟩, q4⟩, q5⟩ := hho
    rw [q1] at hDay
    rw [q3] at hK
    rw [q4] at hM
    have q2' := of_decide_eq_true q2
    have e2 : decide ((6 : Int) < (o.cs.length : Int)) = false := decide_eq_false (by omega)
    generalize hlg : ledgerOK o.led = b5 at *
    refine Fn_of' (fn := f111) (by exact func111) c111 r111 (n := 72) (by rfl) (rv := [.tmp 2]) (by rfl) (by simp) ?_
    unfold m111
    try simp only [wQ]
    simp only [Off.s, offP]
    repeat' (first | (simp only [css_noOwn, strs_noOwn, onC_true, dl_len, e2, ↓wA, ↓wC, wB, frzBE, frzBS, reduceEqDiff, reduceAdd, reduceSub, reduceIte, reduceCtorEq, Nat.reduceBEq, reduceLT]) | (refine call_det (hDay) rfl rfl ?_) | (refine callP_det (hDay) rfl rfl ?_) | (refine call_det (hK) rfl rfl ?_) | (refine callP_det (hK) rfl rfl ?_) | (refine call_det (hM) rfl rfl ?_) | (refine callP_det (hM) rfl rfl ?_) | (refine call_det (hL) rfl rfl ?_) | (refine callP_det (hL) rfl rfl ?_) | ((first | apply execG_split | apply execC_split | apply onPick_split) <;> intro h <;> try simp only [h]))
    any_goals (exfalso; clear hDay hK hM hL; simp_all; done)
    all_goals
      refine exec_range o.cs.length (fun i : Nat => ⟨[(1, .ptr 0 0 []), (3, .d (.int .i64 i))], [.box o.s]⟩) (fun i => ∀ j, j < i → stepC o.cs j = true) (weak_of _ rfl ⟨⟨rfl, rfl⟩, ⟨rfl, rfl⟩, trivial⟩) (fun j hj => by omega) ?_ ?_
      · intro i hlt hinv hd h0
        obtain ⟨x, hr⟩ := get_lt hlt
        have hst := stepC_at hr
        have hok := l25Case_fn x (ho.1.2 x (List.mem_of_getElem? hr))
        simp only [Off.s, offP]
        rcases prevC (x := x) hlt with ⟨hg, hl⟩ | ⟨y, hg, h1, hy, hq⟩
        · rw [hl, Bool.and_true] at hst
          repeat' (first | (simp only [css_noOwn, strs_noOwn, dl_len, dl_nth, hd, h0, hg, Int.toNat_natCast, hr, Option.map_some, ↓rd_cs, Cs.s_noOwn, Cs.s_isV, Cs.s_size, Cs.s_unown, onC_true, ↓wA, ↓wC, wB, frzBE, frzBS, reduceEqDiff, reduceAdd, reduceSub, reduceIte, reduceCtorEq, Nat.reduceBEq, reduceLT]) | (refine call_det (hok) rfl rfl ?_) | (refine callP_det (hok) rfl rfl ?_) | (with_reducible refine onI_bare ?_ ?_; focus (simp only [InR]; omega)) | ((first | apply execG_split | apply execC_split | apply onPick_split) <;> intro h <;> try simp only [h]))
          all_goals first
            | (refine next_range (weak_of _ rfl ⟨⟨rfl, rfl⟩, ⟨rfl, rfl⟩, trivial⟩) hlt (all_upto hinv ?_); focus (clear hok; rw [hst]; simp_all; done))
            | (refine (congrArg (fun b => [D.bool b]) (casesOK_bad hlt ?_)).symm; focus (clear hok; rw [hst]; simp_all; done))
            | trace_state
        · repeat' (first | (simp only [css_noOwn, strs_noOwn, dl_len, dl_nth, hd, h0, hg, h1, hy, hq, Int.toNat_natCast, hr, Option.map_some, ↓rd_cs, ↓fa_cs0, doff_s0, dget_s0, Cs.s_noOwn, Cs.s_isV, Cs.s_size, Cs.s_unown, onC_true, ↓wA, ↓wC, wB, frzBE, frzBS, reduceEqDiff, reduceAdd, reduceSub, reduceIte, reduceCtorEq, Nat.reduceBEq, reduceLT]) | (refine call_det (hok) rfl rfl ?_) | (refine callP_det (hok) rfl rfl ?_) | (with_reducible refine onI_bare ?_ ?_; focus (simp only [InR]; omega)) | ((first | apply execG_split | apply execC_split | apply onPick_split) <;> intro h <;> try simp only [h]))
          all_goals first
            | (refine next_range (weak_of _ rfl ⟨⟨rfl, rfl⟩, ⟨rfl, rfl⟩, trivial⟩) hlt (all_upto hinv ?_); focus (clear hok; rw [hst]; simp_all; done))
            | (refine (congrArg (fun b => [D.bool b]) (casesOK_bad hlt ?_)).symm; focus (clear hok; rw [hst]; simp_all; done))
            | trace_state
      · intro hinv hd
        have hall := casesOK_all hinv
        rw [hall]
        simp only [Off.s, offP]
        repeat' (first | (simp only [css_noOwn, strs_noOwn, dl_len, hd, onC_true, ↓wA, ↓wC, wB, frzBE, frzBS, reduceEqDiff, reduceAdd, reduceSub, reduceIte, reduceCtorEq, Nat.reduceBEq, reduceLT]) | ((first | apply execG_split | apply execC_split | apply onPick_split) <;> intro h <;> try simp only [h]))
  cases hho : headOK o with
  | true => simpa using body hho
  | false =>
    rw [hh] at hho
    rw [Bool.false_and]
    generalize hlg : ledgerOK o.led = b5 at *
    generalize within o.day 0 20000 = b1 at *
    generalize within o.kept 0 999 = b3 at *
    generalize within o.moved 0 999 = b4 at *
    refine Fn_of' (fn := f111) (by exact func111) c111 r111 (n := 72) (by rfl) (rv := [.tmp 2]) (by rfl) (by simp) ?_
    unfold m111
    try simp only [wQ]
    simp only [Off.s, offP]
    repeat' (first | (simp only [css_noOwn, strs_noOwn, onC_true, dl_len, ↓wA, ↓wC, wB, frzBE, frzBS, reduceEqDiff, reduceAdd, reduceSub, reduceIte, reduceCtorEq, Nat.reduceBEq, reduceLT]) | (refine call_det (hDay) rfl rfl ?_) | (refine callP_det (hDay) rfl rfl ?_) | (refine call_det (hK) rfl rfl ?_) | (refine callP_det (hK) rfl rfl ?_) | (refine call_det (hM) rfl rfl ?_) | (refine callP_det (hM) rfl rfl ?_) | (refine call_det (hL) rfl rfl ?_) | (refine callP_det (hL) rfl rfl ?_) | ((first | apply execG_split | apply execC_split | apply onPick_split) <;> intro h <;> try simp only [h]))
    all_goals first
      | rfl
      | (exfalso; clear hDay hK hM hL body; simp_all; done)
      | (exfalso; clear hDay hK hM hL body; simp_all; omega)
def offSh : Sh := .st (.cons (.int .i64) (.cons (.sl 4 (.st (.cons (.int .i64) (.cons (.int .i64) (.cons (.int .i64) (.cons (.sl 1 (.int .i64)) .nil)))))) (.cons (.int .i64) (.cons (.int .i64) (.cons (.sl 1 .str) .nil)))))
theorem int_of (x : D) (h : Typed (.int .i64) x) : ∃ n : Int, x = iD n ∧ True := by
  obtain ⟨n, rfl, _⟩ := h
  exact ⟨n, rfl, trivial⟩
theorem str_of (x : D) (h : Typed .str x) : ∃ s : List UInt8, x = .str s ∧ s.length ≤ maxLen := by
  obtain ⟨s, rfl, hs⟩ := h
  exact ⟨s, rfl, hs⟩
theorem case_of (x : D) (h : Typed (.st (.cons (.int .i64) (.cons (.int .i64) (.cons (.int .i64) (.cons (.sl 1 (.int .i64)) .nil))))) x) : ∃ c : Cs, x = c.s ∧ c.h.length ≤ maxLen := by
  obtain ⟨_, rfl, _, _, rfl, ⟨i, rfl, _⟩, _, _, rfl, ⟨a, rfl, _⟩, _, _, rfl, ⟨d, rfl, _⟩, _, _, rfl, ⟨ds, rfl, h1, h2⟩, rfl⟩ := h
  obtain ⟨v, hv, hl, _⟩ := typed_list (f := iD) (P := fun _ => True) int_of ds h2
  exact ⟨⟨i, a, d, v⟩, by rw [hv]; rfl, by rw [hl]; exact h1⟩
def Off.raw (o : Off) : Prop := o.cs.length ≤ maxLen ∧ (∀ x ∈ o.cs, x.h.length ≤ maxLen) ∧ o.led.length ≤ maxLen ∧ ∀ s ∈ o.led, s.length ≤ maxLen
theorem off_of (x : D) (h : Typed offSh x) : ∃ o : Off, x = o.s ∧ o.raw := by
  obtain ⟨_, rfl, _, _, rfl, ⟨day, rfl, _⟩, _, _, rfl, ⟨cs, rfl, c1, c2⟩, _, _, rfl, ⟨k, rfl, _⟩, _, _, rfl, ⟨m, rfl, _⟩, _, _, rfl, ⟨ls, rfl, l1, l2⟩, rfl⟩ := h
  obtain ⟨xs, hxs, hxl, hxp⟩ := typed_list (f := Cs.s) (P := fun c => c.h.length ≤ maxLen) case_of cs c2
  obtain ⟨L, hL, hLl, hLp⟩ := typed_list (f := D.str) (P := fun s => s.length ≤ maxLen) str_of ls l2
  exact ⟨⟨day, xs, k, m, L⟩, by rw [hxs, hL]; rfl, by rw [hxl]; exact c1, hxp, by rw [hLl]; exact l1, hLp⟩
theorem szOff_fn (o : Off) (h : o.raw) : Fn prog 51 [o.s, .int .i64 1048576] (fun rs => ∃ m : Int, rs = [.int .i64 m] ∧ -1 ≤ m ∧ m ≤ 1048576 ∧ (0 ≤ m → o.ok0)) :=
  szOffice_fn o 1048576 (by decide) (by decide) h.1 h.2.1 h.2.2.1 h.2.2.2
end Go.Pe.Tryz
set_option maxRecDepth 100000
set_option maxHeartbeats 4000000
set_option linter.all false
namespace Go.Pe.Tryz
open Nat (reduceEqDiff reduceAdd reduceSub reduceLT)
open Go.Proofs.Tryz
structure Con where
  o : Off
  d : List UInt8
  p : List UInt8
  c : Int
def conP (x y : D) : D := .st (.cons x (.cons y .nil))
def Con.s (x : Con) : D := conP x.o.s (logD x.d x.p x.c)
def Con.o' (x : Con) : D := conP x.o.o (logD x.d x.p x.c)
def Con.raw (x : Con) : Prop := x.o.raw ∧ x.d.length ≤ maxLen ∧ x.p.length ≤ maxLen
def Con.ok0 (x : Con) : Prop := x.o.ok0 ∧ x.d.length + x.p.length ≤ 1048576
theorem logD_noOwn (d p : List UInt8) (c : Int) : (logD d p c).noOwn = true := rfl
theorem logD_unown (d p : List UInt8) (c : Int) : (logD d p c).unown = logD d p c := rfl
theorem Off.o_noOwn (o : Off) : o.o.noOwn = false := by simp [Off.o, offP, D.noOwn]
theorem Con.s_noOwn (x : Con) : x.s.noOwn = true := by simp [Con.s, conP, D.noOwn, Off.s_noOwn, logD_noOwn]
theorem Con.s_unown (x : Con) : x.s.unown = x.s := by simp [Con.s, conP, D.unown, Off.s_unown, logD_unown]
theorem Con.o_unown (x : Con) : x.o'.unown = x.s := by simp [Con.o', Con.s, conP, D.unown, Off.o_unown, logD_unown]
theorem Con.s_isV (x : Con) : x.s.isV = true := rfl
theorem Con.s_size (x : Con) : x.s.size = 8 := rfl
theorem Con.o_isV (x : Con) : x.o'.isV = true := rfl
theorem Con.o_size (x : Con) : x.o'.size = 8 := rfl
end Go.Pe.Tryz
set_option maxRecDepth 100000
set_option maxHeartbeats 4000000
set_option linter.all false
namespace Go.Pe.Tryz
open Nat (reduceEqDiff reduceAdd reduceSub reduceLT)
open Go.Proofs.Tryz
def word (a : Int) : List UInt8 := if a = 1 then [107, 101, 101, 112] else if a = 2 then [116, 114, 97, 110, 115, 102, 101, 114] else [100, 101, 115, 116, 114, 111, 121]
def pre (a : Int) : List UInt8 := word a ++ [32, 100, 117, 101, 32]
end Go.Pe.Tryz
set_option maxRecDepth 100000
set_option maxHeartbeats 4000000
set_option linter.all false
namespace Go.Pe.Tryz
open Nat (reduceEqDiff reduceAdd reduceSub reduceLT)
open Go.Proofs.Tryz Go.Sort
theorem doff_o1 {x : Off} : doff [1] x.s = 1 := rfl
theorem dget_o1 {x : Off} : dget [1] x.s = some (.sl false 4 (dl Cs.s x.cs)) := rfl
end Go.Pe.Tryz
set_option maxRecDepth 100000
set_option maxHeartbeats 4000000
set_option linter.all false
namespace Go.Pe.Tryz
open Nat (reduceEqDiff reduceAdd reduceSub reduceLT)
open Go.Proofs.Tryz
theorem indexFuncC_fn (p : Cs → Bool) (g : Nat) (c : D) (xs : List Cs) (hc : c.caps = true) (he : enterOK prog.P g = true) (hlen : xs.length ≤ 1048576) (hp : ∀ x ∈ xs, Fn prog g (Cs.s x :: c.list) (fun rs => rs = [.bool (p x)])) :
    Fn prog 201 [.sl false 4 (dl Cs.s xs), .clo g c] (fun rs => rs = [.int .i64 (idxOf p xs)]) := by
  refine Fn_of' (fn := f201) (by exact func201) c201 r201 (n := 19) (by rfl) (rv := [.tmp 4]) (by rfl) (by simp) ?_
  unfold m201
  try simp only [wQ]
  simp only [dl_len, ↓wA, ↓wC, wB, frzBE, frzBS, reduceEqDiff, reduceAdd, reduceSub, reduceIte, reduceCtorEq, Nat.reduceBEq, reduceLT]
  refine exec_range xs.length (fun i : Nat => ⟨[(0, .d (.sl false 4 (dl Cs.s xs))), (1, .d (.clo g c)), (7, .d (.int .i64 xs.length)), (8, .d (.int .i64 i))], []⟩) (fun i => ∀ j r, j < i → xs[j]? = some r → p r = false) (weak_of _ rfl ⟨⟨rfl, rfl⟩, ⟨rfl, rfl⟩, ⟨rfl, rfl⟩, ⟨rfl, rfl⟩, trivial⟩) (fun j r hj => by omega) ?_ ?_
  · intro i hlt hinv hd h0
    obtain ⟨r, hr⟩ := get_lt hlt
    have hcl := hp r (List.mem_of_getElem? hr)
    simp only [hd, h0, dl_nth, Int.toNat_natCast, hr, Option.map_some, onC_true, ↓rd_cs, ↓wA, ↓wC, wB, frzBE, frzBS, reduceEqDiff, reduceAdd, reduceSub, reduceIte, reduceCtorEq, Nat.reduceBEq, reduceLT]
    refine callW_det (ds := [Cs.s r]) hcl he hc (by simp [argsD, argD, valOf, Cs.s_unown]) rfl ?_
    cases hpr : p r with
    | true =>
      simp only [↓wA, ↓wC, wB, frzBE, frzBS, reduceEqDiff, reduceAdd, reduceSub, reduceIte, reduceCtorEq, Nat.reduceBEq, reduceLT]
      rw [idxOf_hit hr hpr hinv]
    | false =>
      simp only [↓wA, ↓wC, wB, frzBE, frzBS, reduceEqDiff, reduceAdd, reduceSub, reduceIte, reduceCtorEq, Nat.reduceBEq, reduceLT]
      refine onI_bare (by simp only [InR]; omega) ?_
      refine next_range (weak_of _ rfl ⟨⟨rfl, rfl⟩, ⟨rfl, rfl⟩, ⟨rfl, rfl⟩, ⟨rfl, rfl⟩, trivial⟩) hlt fun j s hj hs => ?_
      by_cases e : j = i
      · subst e; rw [hr] at hs; injection hs with hs; rw [← hs]; exact hpr
      · exact hinv j s (by omega) hs
  · intro hinv hd
    simp only [hd, ↓wA, ↓wC, wB, frzBE, frzBS, reduceEqDiff, reduceAdd, reduceSub, reduceIte, reduceCtorEq, Nat.reduceBEq, reduceLT]
    rw [idxOf_none fun j r hj => hinv j r (lt_of_get hj) hj]
def findC (xs : List Cs) (id : Int) : Int := idxOf (fun x : Cs => decide (x.i = id)) xs
theorem find_casesC (xs : List Cs) (id : Int) : (decide (findC xs id < 0) = true ∧ decide (0 ≤ findC xs id) = false) ∨ ∃ (i : Nat) (x : Cs), findC xs id = (i : Int) ∧ xs[i]? = some x ∧ x.i = id := by
  by_cases h : 0 ≤ findC xs id
  · obtain ⟨i, x, h1, h2, h3⟩ := idxOf_ge h
    exact .inr ⟨i, x, h1, h2, by simpa using h3⟩
  · exact .inl ⟨decide_eq_true (by omega), decide_eq_false h⟩
theorem caseClo_fn (x : Cs) (id : Int) : Fn prog 202 [x.s, .ptr (.int .i64 id)] (fun rs => rs = [.bool (decide (x.i = id))]) := by
  refine Fn_of' (fn := f202) (by exact func202) c202 r202 (n := 8) (by rfl) (rv := [.tmp 3]) (by rfl) (by simp) ?_
  unfold m202
  try simp only [wQ]
  simp only [Cs.s, Cs.p]
  repeat' (first | (simp only [ints_noOwn, onC_true, ↓wA, ↓wC, wB, frzBE, frzBS, reduceEqDiff, reduceAdd, reduceSub, reduceIte, reduceCtorEq, Nat.reduceBEq, reduceLT]) | ((first | apply execG_split | apply execC_split | apply onPick_split) <;> intro h <;> try simp only [h]))
theorem caseAt_fn (o : Off) (id : Int) (ho : o.ok0) : Fn prog 140 [o.s, .int .i64 id] (fun rs => rs = [.int .i64 (findC o.cs id)]) := by
  have h := indexFuncC_fn (fun x => decide (x.i = id)) 202 (.cons (.ptr (.int .i64 id)) .nil) o.cs rfl en202 ho.1.1 (fun x _ => caseClo_fn x id)
  refine Fn_ofg (ps := [[1, 0]]) (fn := f140) (by exact func140) c140 r140 (n := 9) (by rfl) (rv := [.tmp 4]) (by rfl) (by simp) ?_
  unfold m140
  try simp only [wQ]
  simp only [ghAll, ghAt]
  repeat' (first | (simp only [Off.s_noOwn, Off.s_isV, onC_true, ↓wA, ↓wC, wB, frzBE, frzBS, reduceEqDiff, reduceAdd, reduceSub, reduceIte, reduceCtorEq, Nat.reduceBEq, reduceLT]) | ((first | apply execG_split | apply execC_split | apply onPick_split) <;> intro h <;> try simp only [h]))
  refine exec_gh1 (frzB 1 rfl) ?_
  repeat' (first | (simp only [Off.s_noOwn, Off.s_isV, ↓rd_off, onC_true, css_noOwn, doff_o1, dget_o1, ↓wA, ↓wC, wB, frzBE, frzBS, reduceEqDiff, reduceAdd, reduceSub, reduceIte, reduceCtorEq, Nat.reduceBEq, reduceLT]) | (refine call_det (h) rfl rfl ?_) | (refine callP_det (h) rfl rfl ?_) | ((first | apply execG_split | apply execC_split | apply onPick_split) <;> intro h <;> try simp only [h]))
  all_goals rfl
theorem l25Find_fn (o : Off) (id : Int) (ho : o.ok0) : Fn prog 142 [o.s, .int .i64 id] (fun rs => rs = [.int .i64 (findC o.cs id)]) := by
  have hlen := ho.1.1
  refine Fn_of' (fn := f142) (by exact func142) c142 r142 (n := 22) (by rfl) (rv := [.tmp 4]) (by rfl) (by simp) ?_
  unfold m142
  try simp only [wQ]
  repeat' (first | (simp only [Off.s_noOwn, Off.s_isV, onC_true, ↓wA, ↓wC, wB, frzBE, frzBS, reduceEqDiff, reduceAdd, reduceSub, reduceIte, reduceCtorEq, Nat.reduceBEq, reduceLT]) | ((first | apply execG_split | apply execC_split | apply onPick_split) <;> intro h <;> try simp only [h]))
  refine exec_range o.cs.length (fun i : Nat => ⟨[(1, .d (.int .i64 id)), (2, .ptr 0 0 []), (5, .d (.int .i64 i))], [.box o.s]⟩) (fun i => ∀ j r, j < i → o.cs[j]? = some r → decide (r.i = id) = false) (weak_of _ rfl ⟨⟨rfl, rfl⟩, ⟨rfl, rfl⟩, ⟨rfl, rfl⟩, trivial⟩) (fun j r hj => by omega) ?_ ?_
  · intro i hlt hinv hd h0
    obtain ⟨r, hr⟩ := get_lt hlt
    cases h : decide (r.i = id) with
    | true =>
      repeat' (first | (simp only [dl_len, dl_nth, hd, h0, h, Int.toNat_natCast, hr, Option.map_some, onC_true, css_noOwn, doff_o1, dget_o1, fa_cs0, ↓wA, ↓wC, wB, frzBE, frzBS, reduceEqDiff, reduceAdd, reduceSub, reduceIte, reduceCtorEq, Nat.reduceBEq, reduceLT]) | (refine onI_bare (by simp only [InR]; omega) ?_) | ((first | apply execG_split | apply execC_split | apply onPick_split) <;> intro h <;> try simp only [h]))
      all_goals rw [findC, idxOf_hit hr h hinv]
    | false =>
      repeat' (first | (simp only [dl_len, dl_nth, hd, h0, h, Int.toNat_natCast, hr, Option.map_some, onC_true, css_noOwn, doff_o1, dget_o1, fa_cs0, ↓wA, ↓wC, wB, frzBE, frzBS, reduceEqDiff, reduceAdd, reduceSub, reduceIte, reduceCtorEq, Nat.reduceBEq, reduceLT]) | (refine onI_bare (by simp only [InR]; omega) ?_) | ((first | apply execG_split | apply execC_split | apply onPick_split) <;> intro h <;> try simp only [h]))
      all_goals
        refine next_range (weak_of _ rfl ⟨⟨rfl, rfl⟩, ⟨rfl, rfl⟩, ⟨rfl, rfl⟩, trivial⟩) hlt fun j s hj hs => ?_
        by_cases e : j = i
        · subst e; rw [hr] at hs; injection hs with hs; rw [← hs]; exact h
        · exact hinv j s (by omega) hs
  · intro hinv hd
    repeat' (first | (simp only [dl_len, hd, css_noOwn, onC_true, doff_o1, dget_o1, ↓wA, ↓wC, wB, frzBE, frzBS, reduceEqDiff, reduceAdd, reduceSub, reduceIte, reduceCtorEq, Nat.reduceBEq, reduceLT]) | ((first | apply execG_split | apply execC_split | apply onPick_split) <;> intro h <;> try simp only [h]))
    all_goals rw [findC, idxOf_none fun j r hj => hinv j r (lt_of_get hj) hj]
theorem offOK_case {o : Off} {i : Nat} {x : Cs} (h : offOK o = true) (hr : o.cs[i]? = some x) : caseOK x = true := by
  simp only [offOK, Bool.and_eq_true] at h
  have := List.all_eq_true.1 h.2 i (List.mem_range.2 (lt_of_get hr))
  rw [stepC_at hr, Bool.and_eq_true] at this
  exact this.1
end Go.Pe.Tryz
set_option maxRecDepth 100000
set_option maxHeartbeats 4000000
set_option linter.all false
namespace Go.Pe.Tryz
open Nat (reduceEqDiff reduceAdd reduceSub reduceLT)
open Go.Proofs.Tryz
def ups : Nat → Int → List Int
  | 0, _ => []
  | n + 1, k => k :: ups n (k + 1)
theorem ups_len : ∀ (n : Nat) (k : Int), (ups n k).length = n
  | 0, _ => rfl
  | n + 1, k => by simp [ups, ups_len n]
theorem ups_get : ∀ (n : Nat) (k : Int) (i : Nat), i < n → (ups n k)[i]? = some (k + i)
  | 0, _, i, h => by omega
  | n + 1, k, 0, _ => by simp [ups]
  | n + 1, k, i + 1, h => by
    simp only [ups, List.getElem?_cons_succ]
    rw [ups_get n (k + 1) i (by omega)]
    congr 1; omega
theorem ups_snoc : ∀ (n : Nat) (k : Int), ups (n + 1) k = ups n k ++ [k + n]
  | 0, k => by simp [ups]
  | n + 1, k => by
    have h := ups_snoc n (k + 1)
    rw [ups, h, ups, List.cons_append]
    congr 3; omega
theorem ups_set {v : List Int} {i : Nat} {k : Int} (h : i < v.length) : (ups i k ++ v.drop i).set i (k + i) = ups (i + 1) k ++ v.drop (i + 1) := by
  rw [List.set_append_right _ _ (by rw [ups_len]; omega), ups_len, Nat.sub_self, List.drop_eq_getElem_cons h, List.set_cons_zero, ups_snoc, List.append_assoc]
  rfl
theorem dget_int {n : Int} : dget [] (iD n) = some (iD n) := rfl
theorem doff_int {n : Int} : doff [] (iD n) = 0 := rfl
theorem size_int {n : Int} : (iD n).size = 1 := rfl
theorem markI_fn (v : List Int) (k : Int) (h0 : 0 ≤ k) (h1 : k ≤ 1000000000000000) (hlen : v.length ≤ 1048576) : FnM prog 194 false (.sl true 1 (dl iD v)) [.int .i64 k] (fun x' rs => x' = .sl true 1 (dl iD (ups v.length k)) ∧ rs = [.int .i64 (k + v.length)]) := by
  refine FnM_of' (fn := f194) (by exact func194) c194 r194 (n := 19) (by rfl) (rv := [.tmp 4]) (by rfl) (by decide) (by simp) ?_
  unfold m194
  try simp only [wQ]
  try simp only [↓wA, ↓wC, wB, frzBE, frzBS, reduceEqDiff, reduceAdd, reduceSub, reduceIte, reduceCtorEq, Nat.reduceBEq, reduceLT]
  refine exec_loop (fun i : Nat => ⟨[(0, .own 0), (1, .d (.int .i64 (k + i))), (5, .d (.int .i64 i))], [.val (.sl true 1 (dl iD (ups i k ++ v.drop i)))]⟩)
    (fun i => i ≤ v.length) (fun i => v.length - i) 0
    (weak_of [] rfl ⟨⟨rfl, rfl⟩, ⟨congrArg (fun n => SV.d (.int .i64 n)) (by simp), rfl⟩, ⟨rfl, rfl⟩, trivial⟩) (Nat.zero_le _) ?_
  intro i hi
  have hl : (ups i k ++ v.drop i).length = v.length := by rw [List.length_append, ups_len, List.length_drop]; omega
  by_cases hlt : i < v.length
  · obtain ⟨w, hw⟩ := get_lt (show i < (ups i k ++ v.drop i).length by omega)
    have hd : decide ((i : Int) < (v.length : Int)) = true := decide_eq_true (by omega)
    have h0 : (0 : Int) ≤ (i : Int) := by omega
    have hs : (dl iD (ups i k ++ v.drop i)).setN i (.int .i64 (k + i)) = dl iD (ups (i + 1) k ++ v.drop (i + 1)) := (dl_setN (f := iD) _ i (k + i)).trans (by rw [ups_set hlt])
    repeat' (first | (simp only [dl_len, hl, hd, dl_nth, Int.toNat_natCast, hw, Option.map_some, h0, onC_true, size_int, hs, ↓wA, ↓wC, wB, frzBE, frzBS, reduceEqDiff, reduceAdd, reduceSub, reduceIte, reduceCtorEq, Nat.reduceBEq, reduceLT]) | (refine onI_bare (by simp only [InR]; omega) ?_) | ((first | apply execG_split | apply execC_split | apply onPick_split) <;> intro h <;> try simp only [h]))
    refine ⟨i + 1, weak_of [] rfl ⟨⟨rfl, rfl⟩, ⟨?_, rfl⟩, ⟨rfl, rfl⟩, trivial⟩, by omega, by omega⟩
    exact congrArg (fun n => SV.d (.int .i64 n)) (by omega)
  · have hd : decide ((i : Int) < (v.length : Int)) = false := decide_eq_false (by omega)
    have e : i = v.length := by omega
    try simp only [dl_len, hl, hd, ↓wA, ↓wC, wB, frzBE, frzBS, reduceEqDiff, reduceAdd, reduceSub, reduceIte, reduceCtorEq, Nat.reduceBEq, reduceLT]
    rw [e, List.drop_length, List.append_nil]
    exact ⟨rfl, rfl⟩
theorem heldI_fn (n : Nat) (k : Int) (h0 : 0 ≤ k) (h1 : k ≤ 1000000000000000) (hlen : n ≤ 1048576) : Fn prog 195 [.sl false 1 (dl iD (ups n k)), .int .i64 k] (fun rs => rs = [.int .i64 (k + n)]) := by
  refine Fn_of' (fn := f195) (by exact func195) c195 r195 (n := 21) (by rfl) (rv := [.tmp 4]) (by rfl) (by simp) ?_
  unfold m195
  try simp only [wQ]
  try simp only [↓wA, ↓wC, wB, frzBE, frzBS, reduceEqDiff, reduceAdd, reduceSub, reduceIte, reduceCtorEq, Nat.reduceBEq, reduceLT]
  refine exec_loop (fun i : Nat => ⟨[(0, .d (.sl false 1 (dl iD (ups n k)))), (1, .d (.int .i64 (k + i))), (5, .d (.int .i64 i))], []⟩)
    (fun i => i ≤ n) (fun i => n - i) 0
    (weak_of [] rfl ⟨⟨rfl, rfl⟩, ⟨congrArg (fun n => SV.d (.int .i64 n)) (by simp), rfl⟩, ⟨rfl, rfl⟩, trivial⟩) (Nat.zero_le _) ?_
  intro i hi
  have hl := ups_len n k
  by_cases hlt : i < n
  · have hw := ups_get n k i hlt
    have hd : decide ((i : Int) < (n : Int)) = true := decide_eq_true (by omega)
    have h0 : (0 : Int) ≤ (i : Int) := by omega
    repeat' (first | (simp only [dl_len, hl, hd, dl_nth, Int.toNat_natCast, hw, Option.map_some, h0, onC_true, iD, ↓wA, ↓wC, wB, frzBE, frzBS, reduceEqDiff, reduceAdd, reduceSub, reduceIte, reduceCtorEq, Nat.reduceBEq, reduceLT]) | (refine onI_bare (by simp only [InR]; omega) ?_) | ((first | apply execG_split | apply execC_split | apply onPick_split) <;> intro h <;> try simp only [h]))
    refine ⟨i + 1, weak_of [] rfl ⟨⟨rfl, rfl⟩, ⟨?_, rfl⟩, ⟨rfl, rfl⟩, trivial⟩, by omega, by omega⟩
    exact congrArg (fun n => SV.d (.int .i64 n)) (by omega)
  · have hd : decide ((i : Int) < (n : Int)) = false := decide_eq_false (by omega)
    have e : i = n := by omega
    try simp only [dl_len, hl, hd, ↓wA, ↓wC, wB, frzBE, frzBS, reduceEqDiff, reduceAdd, reduceSub, reduceIte, reduceCtorEq, Nat.reduceBEq, reduceLT]
    rw [e]
end Go.Pe.Tryz
set_option maxRecDepth 100000
set_option maxHeartbeats 4000000
set_option linter.all false
namespace Go.Pe.Tryz
open Nat (reduceEqDiff reduceAdd reduceSub reduceLT)
open Go.Proofs.Tryz Go.Sort
def mtx (k : Int) : List UInt8 := if k ≤ 0 then [109, 48] else 109 :: Lib.decDigits k.toNat
structure Digs (k : Int) (p : Int × List UInt8) : Prop where
  lo : 0 ≤ p.1
  hi : p.1 ≤ k
  len : p.2.length ≤ 21
  eq : Lib.decDigits k.toNat = if p.1 = 0 then p.2 else Lib.decDigits p.1.toNat ++ p.2
theorem Digs.start {k : Int} (h : 0 < k) : Digs k (k, []) := ⟨by show 0 ≤ k; omega, by show k ≤ k; omega, by simp, by simp only; rw [if_neg (by omega)]; simp⟩
theorem Digs.next {k : Int} {p : Int × List UInt8} (hk : k ≤ 100000000000000) (h : Digs k p) (hp : 0 < p.1) : Digs k (p.1 / 10, UInt8.ofNat (48 + (p.1 % 10).toNat) :: p.2) := by
  obtain ⟨n, s⟩ := p
  have h0 : (0 : Int) < n := hp
  obtain ⟨m, rfl⟩ := Int.eq_ofNat_of_zero_le (show (0 : Int) ≤ n by omega)
  have he := h.eq
  have hh := h.hi
  simp only at he hh ⊢
  rw [if_neg (by omega), Int.toNat_natCast] at he
  have hmd : ((m : Int) % 10).toNat = m % 10 := by omega
  have hdv : ((m : Int) / 10).toNat = m / 10 := by omega
  have key : Lib.decDigits k.toNat = if (m : Int) / 10 = 0 then UInt8.ofNat (48 + m % 10) :: s else Lib.decDigits (m / 10) ++ UInt8.ofNat (48 + m % 10) :: s := by
    rw [he]
    by_cases h10 : m < 10
    · rw [decDigits_small h10, if_pos (by omega), show m % 10 = m by omega]; rfl
    · rw [decDigits_more h10, if_neg (by omega)]; simp
  have hl := decDigits_le k.toNat (by omega)
  refine ⟨by show (0 : Int) ≤ (m : Int) / 10; omega, by show (m : Int) / 10 ≤ k; omega, ?_, by simp only [hmd, hdv]; exact key⟩
  rw [key] at hl
  simp only [hmd]
  split at hl
  · exact hl
  · rw [List.length_append] at hl; omega
theorem Digs.done {k : Int} {p : Int × List UInt8} (h : Digs k p) (hp : ¬ 0 < p.1) : Lib.decDigits k.toNat = p.2 := by
  have := h.lo
  rw [h.eq, if_pos (by omega)]
theorem markText_fn (k : Int) (h1 : k ≤ 100000000000000) (h0 : -100000000000000 ≤ k) : Fn prog 87 [.int .i64 k] (fun rs => rs = [.str (mtx k)]) := by
  by_cases h : k ≤ 0
  · have hd : decide (k ≤ 0) = true := decide_eq_true h
    have hm : mtx k = [109, 48] := if_pos h
    rw [hm]
    refine Fn_of' (fn := f87) (by exact func87) c87 r87 (n := 20) (by rfl) (rv := [.tmp 2]) (by rfl) (by simp) ?_
    unfold m87
    try simp only [wQ]
    repeat' (first | (simp only [hd, ↓wA, ↓wC, wB, frzBE, frzBS, reduceEqDiff, reduceAdd, reduceSub, reduceIte, reduceCtorEq, Nat.reduceBEq, reduceLT]) | ((first | apply execG_split | apply execC_split | apply onPick_split) <;> intro h <;> try simp only [h]))
  · have hd : decide (k ≤ 0) = false := decide_eq_false h
    have hm : mtx k = 109 :: Lib.decDigits k.toNat := if_neg h
    rw [hm]
    refine Fn_of' (fn := f87) (by exact func87) c87 r87 (n := 20) (by rfl) (rv := [.tmp 2]) (by rfl) (by simp) ?_
    unfold m87
    try simp only [wQ]
    repeat' (first | (simp only [hd, ↓wA, ↓wC, wB, frzBE, frzBS, reduceEqDiff, reduceAdd, reduceSub, reduceIte, reduceCtorEq, Nat.reduceBEq, reduceLT]) | ((first | apply execG_split | apply execC_split | apply onPick_split) <;> intro h <;> try simp only [h]))
    refine exec_loop (fun p : Int × List UInt8 => ⟨[(0, .d (.int .i64 p.1)), (3, .d (.str p.2))], []⟩) (Digs k) (fun p => p.1.toNat) (k, []) (weak_of _ rfl ⟨⟨rfl, rfl⟩, ⟨rfl, rfl⟩, trivial⟩) (Digs.start (by omega)) ?_
    intro p hp
    have l0 := hp.lo
    have lh := hp.hi
    have ll := hp.len
    by_cases hpos : 0 < p.1
    · have hd : decide (0 < p.1) = true := decide_eq_true hpos
      have hnx := hp.next h1 hpos
      have hq : p.1.tdiv 10 = p.1 / 10 := Int.tdiv_eq_ediv_of_nonneg l0
      have hr : p.1.tmod 10 = p.1 % 10 := Int.tmod_eq_emod_of_nonneg l0
      repeat' (first | (simp only [hd, hq, hr, onC_true, ↓wA, ↓wC, wB, frzBE, frzBS, reduceEqDiff, reduceAdd, reduceSub, reduceIte, reduceCtorEq, Nat.reduceBEq, reduceLT]) | (with_reducible refine onC_i ?_ ?_; focus decide) | (with_reducible refine onC_i ?_ ?_; focus omega) | (with_reducible refine onI_bare ?_ ?_; focus (simp only [InR]; omega)) | ((first | apply execG_split | apply execC_split | apply onPick_split) <;> intro h <;> try simp only [h]))
      refine b2s_own (bs := [UInt8.ofNat (48 + (p.1 % 10).toNat)]) (by
        have e : (((UInt8.ofNat (48 + (p.1 % 10).toNat)).toNat : Nat) : Int) = 48 + p.1 % 10 := by
          rw [UInt8.toNat_ofNat']; omega
        show some (Ob.val (D.sl true 1 ((D.int IntKind.u8 (48 + p.1 % 10)).cons D.nil))) = some (.val (.sl true 1 (D.cons (.int .u8 (((UInt8.ofNat (48 + (p.1 % 10).toNat)).toNat : Nat) : Int)) .nil)))
        rw [e]) ?_
      repeat' (first | (simp only [hq, onC_true, ↓wA, ↓wC, wB, frzBE, frzBS, reduceEqDiff, reduceAdd, reduceSub, reduceIte, reduceCtorEq, Nat.reduceBEq, reduceLT]) | (with_reducible refine onC_i ?_ ?_; focus decide) | (with_reducible refine onC_i ?_ ?_; focus omega) | (with_reducible refine onC_i ?_ ?_; focus (simp; omega)) | (with_reducible refine onI_bare ?_ ?_; focus (simp only [InR]; omega)) | ((first | apply execG_split | apply execC_split | apply onPick_split) <;> intro h <;> try simp only [h]))
      exact ⟨_, (weak_of _ rfl ⟨⟨rfl, rfl⟩, ⟨rfl, rfl⟩, trivial⟩), hnx, by show (p.1 / 10).toNat < p.1.toNat; omega⟩
    · have hd : decide (0 < p.1) = false := decide_eq_false hpos
      have hdn := hp.done hpos
      repeat' (first | (simp only [hd, onC_true, ↓wA, ↓wC, wB, frzBE, frzBS, reduceEqDiff, reduceAdd, reduceSub, reduceIte, reduceCtorEq, Nat.reduceBEq, reduceLT]) | (with_reducible refine onC_i ?_ ?_; focus omega) | ((first | apply execG_split | apply execC_split | apply onPick_split) <;> intro h <;> try simp only [h]))
      all_goals rw [hdn]
def mups (n : Nat) (k : Int) : List (List UInt8) := (ups n k).map mtx
theorem mups_len (n : Nat) (k : Int) : (mups n k).length = n := by rw [mups, List.length_map, ups_len]
theorem mups_get {n : Nat} {k : Int} {i : Nat} (h : i < n) : (mups n k)[i]? = some (mtx (k + i)) := by rw [mups, List.getElem?_map, ups_get n k i h]; rfl
theorem mups_snoc (n : Nat) (k : Int) : mups (n + 1) k = mups n k ++ [mtx (k + n)] := by simp only [mups, ups_snoc, List.map_append, List.map_cons, List.map_nil]
theorem mups_set {L : List (List UInt8)} {i : Nat} {k : Int} (h : i < L.length) : (mups i k ++ L.drop i).set i (mtx (k + i)) = mups (i + 1) k ++ L.drop (i + 1) := by
  rw [List.set_append_right _ _ (by rw [mups_len]; omega), mups_len, Nat.sub_self, List.drop_eq_getElem_cons h, List.set_cons_zero, mups_snoc, List.append_assoc]
  rfl
theorem markS_fn (L : List (List UInt8)) (k : Int) (h0 : 0 ≤ k) (h1 : k ≤ 10000000000000) (hlen : L.length ≤ 1048576) : FnM prog 20 false (.sl true 1 (dl D.str L)) [.int .i64 k] (fun x' rs => x' = .sl true 1 (dl D.str (mups L.length k)) ∧ rs = [.int .i64 (k + L.length)]) := by
  refine FnM_of' (fn := f20) (by exact func20) c20 r20 (n := 20) (by rfl) (rv := [.tmp 4]) (by rfl) (by decide) (by simp) ?_
  unfold m20
  try simp only [wQ]
  try simp only [↓wA, ↓wC, wB, frzBE, frzBS, reduceEqDiff, reduceAdd, reduceSub, reduceIte, reduceCtorEq, Nat.reduceBEq, reduceLT]
  refine exec_loop (fun i : Nat => ⟨[(0, .own 0), (1, .d (.int .i64 (k + i))), (5, .d (.int .i64 i))], [.val (.sl true 1 (dl D.str (mups i k ++ L.drop i)))]⟩)
    (fun i => i ≤ L.length) (fun i => L.length - i) 0
    (weak_of [] rfl ⟨⟨rfl, rfl⟩, ⟨congrArg (fun n => SV.d (.int .i64 n)) (by simp), rfl⟩, ⟨rfl, rfl⟩, trivial⟩) (Nat.zero_le _) ?_
  intro i hi
  have hl : (mups i k ++ L.drop i).length = L.length := by rw [List.length_append, mups_len, List.length_drop]; omega
  by_cases hlt : i < L.length
  · obtain ⟨w, hw⟩ := get_lt (show i < (mups i k ++ L.drop i).length by omega)
    have hd : decide ((i : Int) < (L.length : Int)) = true := decide_eq_true (by omega)
    have h0 : (0 : Int) ≤ (i : Int) := by omega
    have hm := markText_fn (k + i) (by omega) (by omega)
    have hs : (dl D.str (mups i k ++ L.drop i)).setN i (.str (mtx (k + i))) = dl D.str (mups (i + 1) k ++ L.drop (i + 1)) := (dl_setN (f := D.str) _ i (mtx (k + i))).trans (by rw [mups_set hlt])
    repeat' (first | (simp only [dl_len, hl, hd, dl_nth, Int.toNat_natCast, hw, Option.map_some, h0, onC_true, hs, ↓wA, ↓wC, wB, frzBE, frzBS, reduceEqDiff, reduceAdd, reduceSub, reduceIte, reduceCtorEq, Nat.reduceBEq, reduceLT]) | (refine call_det (hm) rfl rfl ?_) | (refine callP_det (hm) rfl rfl ?_) | (refine onI_bare (by simp only [InR]; omega) ?_) | ((first | apply execG_split | apply execC_split | apply onPick_split) <;> intro h <;> try simp only [h]))
    refine ⟨i + 1, weak_of [] rfl ⟨⟨rfl, rfl⟩, ⟨?_, rfl⟩, ⟨rfl, rfl⟩, trivial⟩, by omega, by omega⟩
    exact congrArg (fun n => SV.d (.int .i64 n)) (by omega)
  · have hd : decide ((i : Int) < (L.length : Int)) = false := decide_eq_false (by omega)
    have e : i = L.length := by omega
    try simp only [dl_len, hl, hd, ↓wA, ↓wC, wB, frzBE, frzBS, reduceEqDiff, reduceAdd, reduceSub, reduceIte, reduceCtorEq, Nat.reduceBEq, reduceLT]
    rw [e, List.drop_length, List.append_nil]
    exact ⟨rfl, rfl⟩
theorem heldS_fn (n : Nat) (k : Int) (h0 : 0 ≤ k) (h1 : k ≤ 10000000000000) (hlen : n ≤ 1048576) : Fn prog 21 [.sl false 1 (dl D.str (mups n k)), .int .i64 k] (fun rs => rs = [.int .i64 (k + n)]) := by
  refine Fn_of' (fn := f21) (by exact func21) c21 r21 (n := 22) (by rfl) (rv := [.tmp 4]) (by rfl) (by simp) ?_
  unfold m21
  try simp only [wQ]
  try simp only [↓wA, ↓wC, wB, frzBE, frzBS, reduceEqDiff, reduceAdd, reduceSub, reduceIte, reduceCtorEq, Nat.reduceBEq, reduceLT]
  refine exec_loop (fun i : Nat => ⟨[(0, .d (.sl false 1 (dl D.str (mups n k)))), (1, .d (.int .i64 (k + i))), (5, .d (.int .i64 i))], []⟩)
    (fun i => i ≤ n) (fun i => n - i) 0
    (weak_of [] rfl ⟨⟨rfl, rfl⟩, ⟨congrArg (fun n => SV.d (.int .i64 n)) (by simp), rfl⟩, ⟨rfl, rfl⟩, trivial⟩) (Nat.zero_le _) ?_
  intro i hi
  by_cases hlt : i < n
  · have hw := mups_get (k := k) hlt
    have hd : decide ((i : Int) < (n : Int)) = true := decide_eq_true (by omega)
    have h0 : (0 : Int) ≤ (i : Int) := by omega
    have hm := markText_fn (k + i) (by omega) (by omega)
    have ht : decide (mtx (k + i) = mtx (k + i)) = true := decide_eq_true rfl
    repeat' (first | (simp only [dl_len, mups_len, hd, dl_nth, Int.toNat_natCast, hw, Option.map_some, h0, onC_true, ht, ↓wA, ↓wC, wB, frzBE, frzBS, reduceEqDiff, reduceAdd, reduceSub, reduceIte, reduceCtorEq, Nat.reduceBEq, reduceLT]) | (refine call_det (hm) rfl rfl ?_) | (refine callP_det (hm) rfl rfl ?_) | (refine onI_bare (by simp only [InR]; omega) ?_) | ((first | apply execG_split | apply execC_split | apply onPick_split) <;> intro h <;> try simp only [h]))
    refine ⟨i + 1, weak_of [] rfl ⟨⟨rfl, rfl⟩, ⟨?_, rfl⟩, ⟨rfl, rfl⟩, trivial⟩, by omega, by omega⟩
    exact congrArg (fun n => SV.d (.int .i64 n)) (by omega)
  · have hd : decide ((i : Int) < (n : Int)) = false := decide_eq_false (by omega)
    have e : i = n := by omega
    try simp only [dl_len, mups_len, hd, ↓wA, ↓wC, wB, frzBE, frzBS, reduceEqDiff, reduceAdd, reduceSub, reduceIte, reduceCtorEq, Nat.reduceBEq, reduceLT]
    all_goals rw [e]
end Go.Pe.Tryz
