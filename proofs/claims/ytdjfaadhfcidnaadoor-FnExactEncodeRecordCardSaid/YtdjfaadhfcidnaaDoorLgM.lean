/- The lines of a log as plain lists of bytes: what a line is, how it is read, that there is one way alone. -/
import Derived.Test.YtdjfaadhfcidnaaDoorLg1
import Derived.Lib.ItoaNum
import Derived.Lib.IndexMore
set_option maxRecDepth 100000
set_option maxHeartbeats 4000000
set_option linter.all false
namespace Go.Pe.Tryd
/-- a byte of a numeral. -/
def isDig (b : UInt8) : Prop := b = 45 ∨ (48 ≤ b.toNat ∧ b.toNat ≤ 57)
theorem decDigits_dig : ∀ (u : Nat), ∀ b ∈ Lib.decDigits u, 48 ≤ b.toNat ∧ b.toNat ≤ 57 := by
  intro u
  induction u using Nat.strongRecOn with
  | _ u ih =>
    intro b hb
    rw [Lib.decDigits] at hb
    have one : ∀ d : Nat, d < 10 → (UInt8.ofNat (48 + d)).toNat = 48 + d := fun d hd => by
      rw [UInt8.toNat_ofNat']; omega
    by_cases h : u < 10
    · rw [dif_pos h] at hb
      simp only [List.mem_singleton] at hb
      rw [hb, one u h]; omega
    · rw [dif_neg h] at hb
      rcases List.mem_append.1 hb with hb | hb
      · exact ih (u / 10) (by omega) b hb
      · simp only [List.mem_singleton] at hb
        rw [hb, one (u % 10) (by omega)]; omega
theorem itoa_dig (n : Int) : ∀ b ∈ Lib.itoa n, isDig b := by
  intro b hb
  unfold Lib.itoa at hb
  split at hb
  · rcases List.mem_cons.1 hb with hb | hb
    · exact .inl hb
    · exact .inr (decDigits_dig _ b hb)
  · exact .inr (decDigits_dig _ b hb)
theorem itoa_not (n : Int) (c : UInt8) (hc : c ≠ 45) (h : c.toNat < 48 ∨ 57 < c.toNat) : c ∉ Lib.itoa n := fun hm => by
  rcases itoa_dig n c hm with h1 | h1
  · exact hc h1
  · omega
theorem decDigits_ne (u : Nat) : Lib.decDigits u ≠ [] := by
  rw [Lib.decDigits]
  by_cases h : u < 10
  · rw [dif_pos h]; simp
  · rw [dif_neg h]; simp
/-- what stands ahead of a byte, and behind it. -/
def before (x : UInt8) (s : List UInt8) : List UInt8 := s.takeWhile (· != x)
def after (x : UInt8) (s : List UInt8) : List UInt8 := (s.dropWhile (· != x)).drop 1
theorem before_app {x : UInt8} : ∀ {s t : List UInt8}, x ∉ s → before x (s ++ x :: t) = s
  | [], t, _ => by simp [before]
  | b :: s, t, h => by
    simp only [List.mem_cons, not_or] at h
    have hb : (b != x) = true := by simpa [bne_iff_ne] using fun e => h.1 e.symm
    have := before_app (t := t) h.2
    unfold before at *
    simp only [List.cons_append, List.takeWhile_cons, hb, if_true, this]
theorem after_app {x : UInt8} : ∀ {s t : List UInt8}, x ∉ s → after x (s ++ x :: t) = t
  | [], t, _ => by simp [after]
  | b :: s, t, h => by
    simp only [List.mem_cons, not_or] at h
    have hb : (b != x) = true := by simpa [bne_iff_ne] using fun e => h.1 e.symm
    have := after_app (t := t) h.2
    unfold after at *
    simp only [List.cons_append, List.dropWhile_cons, hb, if_true, this]
theorem before_none {x : UInt8} : ∀ {s : List UInt8}, x ∉ s → before x s = s
  | [], _ => rfl
  | b :: s, h => by
    simp only [List.mem_cons, not_or] at h
    have hb : (b != x) = true := by simpa [bne_iff_ne] using fun e => h.1 e.symm
    have := before_none h.2
    unfold before at *
    simp only [List.takeWhile_cons, hb, if_true, this]
theorem after_none {x : UInt8} : ∀ {s : List UInt8}, x ∉ s → after x s = []
  | [], _ => rfl
  | b :: s, h => by
    simp only [List.mem_cons, not_or] at h
    have hb : (b != x) = true := by simpa [bne_iff_ne] using fun e => h.1 e.symm
    have := after_none h.2
    unfold after at *
    simp only [List.dropWhile_cons, hb, if_true, this]
theorem split_at {x : UInt8} : ∀ {s : List UInt8}, x ∈ s → s = before x s ++ x :: after x s
  | b :: s, h => by
    by_cases e : b = x
    · subst e; simp [before, after]
    · have hb : (b != x) = true := by simpa [bne_iff_ne] using e
      have hm : x ∈ s := by
        rcases List.mem_cons.1 h with h | h
        · exact absurd h.symm e
        · exact h
      have ih := split_at hm
      unfold before after at *
      simp only [List.takeWhile_cons, List.dropWhile_cons, hb, if_true, List.cons_append]
      rw [← ih]
theorem before_not (x : UInt8) : ∀ (s : List UInt8), x ∉ before x s
  | [] => by simp [before]
  | b :: s => by
    by_cases e : b = x
    · subst e; simp [before]
    · have hb : (b != x) = true := by simpa [bne_iff_ne] using e
      have ih := before_not x s
      unfold before at *
      simp only [List.takeWhile_cons, hb, if_true, List.mem_cons, not_or]
      exact ⟨fun h => e h.symm, ih⟩
theorem before_le (x : UInt8) (s : List UInt8) : (before x s).length ≤ s.length := (List.takeWhile_sublist _).length_le
theorem after_len {x : UInt8} {s : List UInt8} (h : x ∈ s) : (before x s).length + 1 + (after x s).length = s.length := by
  have := congrArg List.length (split_at h)
  simp at this; omega
theorem before_take {x : UInt8} (s : List UInt8) : before x s = s.take (before x s).length := by
  by_cases h : x ∈ s
  · have h1 : (before x s ++ x :: after x s).take (before x s).length = before x s := List.take_left' rfl
    rw [← split_at h] at h1
    exact h1.symm
  · rw [before_none h, List.take_length]
theorem after_drop {x : UInt8} {s : List UInt8} (h : x ∈ s) : after x s = s.drop ((before x s).length + 1) := by
  have h1 : (before x s ++ x :: after x s).drop ((before x s).length + 1) = after x s := by
    rw [← List.drop_drop, List.drop_left' rfl]; rfl
  rw [← split_at h] at h1
  exact h1.symm
/-- the checksum. -/
def ckf (h : Int) (b : UInt8) : Int := (41 * h + (b.toNat : Int) + 1) % 999979
def ck (s : List UInt8) : Int := s.foldl ckf 7
theorem ck_bd (s : List UInt8) : 0 ≤ ck s ∧ ck s < 999979 := by
  unfold ck
  have : ∀ (s : List UInt8) (h : Int), 0 ≤ h ∧ h < 999979 → 0 ≤ s.foldl ckf h ∧ s.foldl ckf h < 999979 := by
    intro s
    induction s with
    | nil => intro h hh; exact hh
    | cons b s ih =>
      intro h hh
      refine ih _ ?_
      unfold ckf
      omega
  exact this s 7 (by omega)
def sealL (s : List UInt8) : List UInt8 := s ++ 35 :: Lib.itoa (ck s)
def body (k : Int) (c r : List UInt8) : List UInt8 := Lib.itoa k ++ 32 :: (c ++ 64 :: r)
def line (k : Int) (c r : List UInt8) : List UInt8 := sealL (body k c r)
theorem plain_not {s : List UInt8} (h : plain s = true) {x : UInt8} (hx : isP x = false) : x ∉ s := fun hm => by
  have := (List.all_eq_true.1 h) x hm
  rw [hx] at this; cases this
theorem rec_parts {c r : List UInt8} (h : recOK c r = true) : 1 ≤ c.length ∧ c.length ≤ 160 ∧ r.length ≤ 200 ∧ plain c = true ∧ plain r = true ∧ (64 : UInt8) ∉ c := by
  simp only [recOK, within, Bool.and_eq_true, decide_eq_true_eq, Bool.not_eq_true'] at h
  obtain ⟨⟨⟨⟨⟨h1, h2⟩, h3⟩, h4⟩, h5⟩, h6⟩ := h
  refine ⟨by omega, by omega, by omega, h4, h5, fun hm => ?_⟩
  rw [List.contains_iff_mem.2 hm] at h6; cases h6
theorem body_no35 {k : Int} {c r : List UInt8} (h : recOK c r = true) : (35 : UInt8) ∉ body k c r := by
  obtain ⟨_, _, _, hc, hr, _⟩ := rec_parts h
  unfold body
  simp only [List.mem_append, List.mem_cons, not_or]
  exact ⟨itoa_not k 35 (by decide) (by decide), by decide, plain_not hc (by decide), by decide, plain_not hr (by decide)⟩
theorem body_no10 {k : Int} {c r : List UInt8} (h : recOK c r = true) : (10 : UInt8) ∉ body k c r := by
  obtain ⟨_, _, _, hc, hr, _⟩ := rec_parts h
  unfold body
  simp only [List.mem_append, List.mem_cons, not_or]
  exact ⟨itoa_not k 10 (by decide) (by decide), by decide, plain_not hc (by decide), by decide, plain_not hr (by decide)⟩
theorem line_no10 {k : Int} {c r : List UInt8} (h : recOK c r = true) : (10 : UInt8) ∉ line k c r := by
  unfold line sealL
  simp only [List.mem_append, List.mem_cons, not_or]
  exact ⟨body_no10 h, by decide, itoa_not _ 10 (by decide) (by decide)⟩
/-- a line is read as a record with the number k. -/
def rd (k : Int) (L : List UInt8) : Option (List UInt8 × List UInt8) :=
  let rest := (before 35 L).drop ((Lib.itoa k).length + 1)
  if recOK (before 64 rest) (after 64 rest) = true ∧ line k (before 64 rest) (after 64 rest) = L then some (before 64 rest, after 64 rest) else none
theorem line_before {k : Int} {c r : List UInt8} (h : recOK c r = true) : before 35 (line k c r) = body k c r := before_app (body_no35 h)
theorem body_rest {k : Int} {c r : List UInt8} : (body k c r).drop ((Lib.itoa k).length + 1) = c ++ 64 :: r := by
  unfold body
  rw [← List.drop_drop, List.drop_left' rfl]; rfl
theorem rd_iff {k : Int} {L c r : List UInt8} : rd k L = some (c, r) ↔ recOK c r = true ∧ line k c r = L := by
  constructor
  · intro h
    simp only [rd] at h
    split at h
    · rename_i h1
      injection h with h
      injection h with h2 h3
      subst h2 h3
      exact h1
    · cases h
  · rintro ⟨h1, rfl⟩
    have h64 := (rec_parts h1).2.2.2.2.2
    simp only [rd, line_before h1, body_rest, before_app h64, after_app h64]
    rw [if_pos ⟨h1, trivial⟩]
/-- the records at the start of a text, and how many bytes they have. -/
def opens : Nat → Int → List UInt8 → List (List UInt8 × List UInt8) × Nat
  | 0, _, _ => ([], 0)
  | n + 1, k, s => if (10 : UInt8) ∈ s then
      match rd k (before 10 s) with
      | some e => (e :: (opens n (k + 1) (after 10 s)).1, (before 10 s).length + 1 + (opens n (k + 1) (after 10 s)).2)
      | none => ([], 0)
    else ([], 0)
theorem opens_le : ∀ (n : Nat) (k : Int) (s : List UInt8), (opens n k s).2 ≤ s.length ∧ (opens n k s).1.length ≤ n
  | 0, _, _ => by simp [opens]
  | n + 1, k, s => by
    simp only [opens]
    split
    · rename_i h
      split
      · have ih := opens_le n (k + 1) (after 10 s)
        have := after_len h
        simp only [List.length_cons]
        omega
      · simp
    · simp
end Go.Pe.Tryd
