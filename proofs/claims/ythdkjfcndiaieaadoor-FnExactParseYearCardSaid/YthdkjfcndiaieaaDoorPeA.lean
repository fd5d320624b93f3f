/-
  A layer for walks of Go functions over their compact code (part A): data and where they lie, contracts, the operations, the walk of code. Own work, the same in every claim of this set.
-/
import Derived.Orders
import Derived.Below
import Derived.Laws.AppendOwn
import Derived.Laws.OwnMore
import Derived.Laws.Cells
import Derived.Laws.Entries
import Derived.Laws.BitsLemmas
import Derived.Laws.StructEq
import Derived.WideLaws
import Derived.IntWalk
import Derived.Lib.SmallJoins
import Derived.Tactics2
import Derived.Lib.Strings
import Derived.Laws.IdiomStrings
import Derived.Still
/- The deep data that values of the program represent, and the representation predicate: what it is kept by. No program in sight. -/
namespace Go.Pe
open Go Go.RowKit

/-- 'nil' and 'cons' make the lists of parts of 'sl' (a slice), 'st' (a struct), 'clo' (a function value). -/
inductive D where
  | int (k : IntKind) (n : Int)
  | bool (b : Bool)
  | str (s : List UInt8)
  | err (none : Bool)
  | sl (own : Bool) (es : Nat) (xs : D)
  | st (xs : D)
  | ptr (x : D)
  | clo (g : FuncId) (xs : D)
  /-- a cell that holds just the value v: what lies behind it is the object that the tag at q names. -/
  | lnk (q : Nat) (v : Value)
  | nil
  | cons (x xs : D)

def D.size : D → Nat
  | .st xs => xs.size
  | .nil => 0
  | .cons x xs => x.size + xs.size
  | _ => 1

def D.len : D → Nat
  | .cons _ xs => xs.len + 1
  | _ => 0

def D.nth : D → Nat → Option D
  | .cons x _, 0 => some x
  | .cons _ xs, n + 1 => xs.nth n
  | _, _ => none

def ofL : List D → D
  | [] => .nil
  | x :: xs => .cons x (ofL xs)

def D.unown : D → D
  | .sl _ es xs => .sl false es xs.unown
  | .st xs => .st xs.unown
  | .ptr x => .ptr x.unown
  | .clo g xs => .clo g xs.unown
  | .cons x xs => .cons x.unown xs.unown
  | d => d

/-- no slice that is shared, no pointer: nothing in it depends on memory that is not its own. -/
def D.allOwn : D → Bool
  | .sl o _ xs => o && xs.allOwn
  | .st xs => xs.allOwn
  | .ptr _ => false
  | .clo _ _ => false
  | .cons x xs => x.allOwn && xs.allOwn
  | _ => true

/-- no slice that is owned. -/
def D.noOwn : D → Bool
  | .sl o _ xs => !o && xs.noOwn
  | .st xs => xs.noOwn
  | .ptr x => x.noOwn
  | .clo _ xs => xs.noOwn
  | .cons x xs => x.noOwn && xs.noOwn
  | _ => true

/-- a list of parts, each of 'es' cells. -/
def D.isL (es : Nat) : D → Prop
  | .nil => True
  | .cons x xs => x.size = es ∧ xs.isL es
  | _ => False

/-- from `ad` on lie the cells `ds`, in a block that is none of `M`. -/
def Holds (w : World) (M : Nat → Prop) (ad : Addr) (ds : List Value) : Prop :=
  ds = [] ∨ (ad.block < w.heap.size ∧ ¬ M ad.block ∧ ∀ j u, ds[j]? = some u → w.cell? (ad.add j) = some u)

/-- none of the first n cells is frozen. -/
def FzOK (fz : Nat × Nat) (n : Nat) : Prop := fz.2 ≤ fz.1 ∨ n ≤ fz.1
/-- block `g` is the row of cells `cur`, none frozen. -/
def RowC (w : World) (g : Nat) (cur : Array Value) (E : TypeId) : Prop := ∃ fz, w.heap[g]? = some (.cells cur E fz) ∧ FzOK fz cur.size
theorem RowC.frame {w w' : World} {g : Nat} {cur : Array Value} {E : TypeId} (h : RowC w g cur E) (hk : w'.heap[g]? = w.heap[g]?) : RowC w' g cur E := by
  obtain ⟨fz, h1, h2⟩ := h
  exact ⟨fz, hk.trans h1, h2⟩
theorem RowC.lt {w : World} {g : Nat} {cur : Array Value} {E : TypeId} (h : RowC w g cur E) : g < w.heap.size := by
  obtain ⟨fz, h1, h2⟩ := h
  exact (Array.getElem?_eq_some_iff.1 h1).1
theorem RowC.cell {w : World} {g : Nat} {cur : Array Value} {E : TypeId} (h : RowC w g cur E) (j : Nat) : w.cell? ⟨g, j, none⟩ = cur[j]? := by
  obtain ⟨fz, h1, h2⟩ := h
  exact cell_of_row w g j cur E fz h1
theorem RowC.new (w : World) (cur : Array Value) (E : TypeId) : RowC (w.alloc (.cells cur E)) w.heap.size cur E := ⟨(0, 0), Go.heap_alloc_new w _, .inl (Nat.le_refl _)⟩
theorem RowC.set {w : World} {g : Nat} {cur cs : Array Value} {E : TypeId} (h : RowC w g cur E) (hs : cs.size = cur.size) : RowC (w.setRow g cs) g cs E := by
  obtain ⟨fz, h1, h2⟩ := h
  exact ⟨fz, setRow_heap w g cur cs E fz h1, by rw [hs]; exact h2⟩
theorem RowC.eq {w : World} {g : Nat} {cur cs : Array Value} {E F : TypeId} (h : RowC w g cur E) (k : RowC w g cs F) : cur = cs := by
  obtain ⟨fz, h1, _⟩ := h
  obtain ⟨fz', k1, _⟩ := k
  rw [h1] at k1
  injection k1 with k1
  injection k1
theorem FzOK.no {w : World} {g : Nat} {cur : Array Value} {E : TypeId} {fz : Nat × Nat} (h : w.heap[g]? = some (.cells cur E fz)) (hf : FzOK fz cur.size) {k : Nat} (hk : k < cur.size) : w.frozen? ⟨g, k, none⟩ = false := by
  obtain ⟨lo, hi⟩ := fz
  simp only [World.frozen?, h, Bool.and_eq_false_iff, decide_eq_false_iff_not]
  rcases hf with hf | hf
  · simp only at hf
    omega
  · simp only at hf
    left; omega
/-- block `g` is a row of `n` cells, none frozen, that begins with `ds`. -/
def RowAt (w : World) (g n : Nat) (ds : List Value) : Prop :=
  ∃ cur E, RowC w g cur E ∧ cur.size = n ∧ cur.toList.take ds.length = ds

def D.rep (w : World) (M : Nat → Prop) : D → List Value → List Nat → Prop
  | .int k n, cs, fp => cs = [.int k n] ∧ fp = []
  | .bool b, cs, fp => cs = [.bool b] ∧ fp = []
  | .str s, cs, fp => cs = [.string ⟨s.toArray⟩] ∧ fp = []
  | .err b, cs, fp => fp = [] ∧ (if b then cs = [.nilIface] else ∃ t v, cs = [.iface t v])
  | .sl own es xs, cs, fp => xs.isL es ∧ ∃ a c ds fps, cs = [.slice a xs.len c] ∧ xs.len ≤ c ∧ xs.rep w M ds fps ∧
      (if own then (c = 0 ∧ fps = [] ∧ fp = []) ∨ ∃ g, a = some ⟨g, 0, none⟩ ∧ RowAt w g (c * es) ds ∧ fp = g :: fps
       else fps = [] ∧ fp = [] ∧ (xs.len = 0 ∨ ∃ ad, a = some ad ∧ Holds w M ad ds))
  | .st xs, cs, fp => xs.rep w M cs fp
  | .ptr x, cs, fp => fp = [] ∧ ∃ ad ds, cs = [.pointer (some ad)] ∧ x.rep w M ds [] ∧ Holds w M ad ds
  | .clo g xs, cs, fp => fp = [] ∧ ∃ ds, cs = [.func (.func g) #[] ds.toArray] ∧ xs.rep w M ds []
  | .lnk _ v, cs, fp => cs = [v] ∧ v.oneCell' = true ∧ fp = []
  | .nil, cs, fp => cs = [] ∧ fp = []
  | .cons x xs, cs, fp => ∃ c1 c2 f1 f2, cs = c1 ++ c2 ∧ fp = f1 ++ f2 ∧ x.rep w M c1 f1 ∧ xs.rep w M c2 f2

section
variable {w w' : World} {M M' : Nat → Prop}

theorem Holds.frame {ad : Addr} {ds : List Value} (h : Holds w M ad ds) (hs : w.heap.size ≤ w'.heap.size) (hM : ∀ b, b < w.heap.size → M' b → M b)
    (hk : ∀ b, b < w.heap.size → ¬ M b → w'.heap[b]? = w.heap[b]?) : Holds w' M' ad ds := by
  rcases h with h | ⟨h1, h2, h3⟩
  · exact .inl h
  · refine .inr ⟨by omega, fun h => h2 (hM _ h1 h), fun j u hu => ?_⟩
    have hb : (ad.add j).block = ad.block := by unfold Addr.add; split <;> rfl
    rw [World.cell?_of_block (w := w) (by rw [hb]; exact hk _ h1 h2)]
    exact h3 j u hu

theorem RowAt.frame {g n : Nat} {ds : List Value} (h : RowAt w g n ds) (hk : w'.heap[g]? = w.heap[g]?) : RowAt w' g n ds := by
  obtain ⟨cur, E, h1, h2, h3⟩ := h
  exact ⟨cur, E, h1.frame hk, h2, h3⟩

theorem RowAt.lt {g n : Nat} {ds : List Value} (h : RowAt w g n ds) : g < w.heap.size := by
  obtain ⟨cur, E, h1, h2, h3⟩ := h
  exact h1.lt

theorem rep_frame (hs : w.heap.size ≤ w'.heap.size) (hM : ∀ b, b < w.heap.size → M' b → M b) :
    ∀ (d : D) (cs : List Value) (fp : List Nat), (∀ b, b < w.heap.size → (b ∈ fp ∨ ¬ M b) → w'.heap[b]? = w.heap[b]?) → d.rep w M cs fp → d.rep w' M' cs fp := by
  intro d
  induction d with
  | int k n => intro cs fp _ h; exact h
  | bool b => intro cs fp _ h; exact h
  | str s => intro cs fp _ h; exact h
  | err b => intro cs fp _ h; exact h
  | nil => intro cs fp _ h; exact h
  | st xs ih => intro cs fp hk h; exact ih cs fp hk h
  | ptr x ih =>
    intro cs fp hk h
    obtain ⟨h0, ad, ds, h1, h2, h3⟩ := h
    exact ⟨h0, ad, ds, h1, ih ds [] (fun b hb hx => hk b hb (hx.imp (fun h => by cases h) id)) h2, h3.frame hs hM (fun b hb hn => hk b hb (.inr hn))⟩
  | clo g xs ih =>
    intro cs fp hk h
    obtain ⟨h0, ds, h1, h2⟩ := h
    exact ⟨h0, ds, h1, ih ds [] (fun b hb hx => hk b hb (hx.imp (fun h => by cases h) id)) h2⟩
  | lnk q v => intro cs fp _ h; exact h
  | cons x xs ih1 ih2 =>
    intro cs fp hk h
    obtain ⟨c1, c2, f1, f2, e1, e2, h1, h2⟩ := h
    exact ⟨c1, c2, f1, f2, e1, e2, ih1 c1 f1 (fun b hb hx => hk b hb (hx.imp (fun hx => by simp [e2, hx]) id)) h1,
      ih2 c2 f2 (fun b hb hx => hk b hb (hx.imp (fun hx => by simp [e2, hx]) id)) h2⟩
  | sl own es xs ih =>
    intro cs fp hk h
    simp only [D.rep] at h ⊢
    obtain ⟨h0, a, c, ds, fps, h1, h2, h3, h4⟩ := h
    cases own with
    | true =>
      simp only [if_true] at h4 ⊢
      rcases h4 with ⟨hc, hf, hf'⟩ | ⟨g, ha, hr, hf⟩
      · exact ⟨h0, a, c, ds, fps, h1, h2, ih ds fps (fun b hb hx => hk b hb (hx.imp (fun hx => by rw [hf] at hx; cases hx) id)) h3, .inl ⟨hc, hf, hf'⟩⟩
      · exact ⟨h0, a, c, ds, fps, h1, h2, ih ds fps (fun b hb hx => hk b hb (hx.imp (fun hx => by simp [hf, hx]) id)) h3, .inr ⟨g, ha, hr.frame (hk g hr.lt (.inl (by simp [hf]))), hf⟩⟩
    | false =>
      simp only [Bool.false_eq_true, if_false] at h4 ⊢
      obtain ⟨hf, hf', h5⟩ := h4
      exact ⟨h0, a, c, ds, fps, h1, h2, ih ds fps (fun b hb hx => hk b hb (hx.imp (fun hx => by rw [hf] at hx; cases hx) id)) h3, hf, hf',
        h5.imp id fun ⟨ad, h5, h6⟩ => ⟨ad, h5, h6.frame hs hM (fun b hb hn => hk b hb (.inr hn))⟩⟩

theorem rep_length : ∀ (d : D) (cs : List Value) (fp : List Nat), d.rep w M cs fp → cs.length = d.size := by
  intro d
  induction d with
  | int k n => intro cs fp h; rw [h.1]; rfl
  | bool b => intro cs fp h; rw [h.1]; rfl
  | str s => intro cs fp h; rw [h.1]; rfl
  | err b =>
    intro cs fp h
    obtain ⟨_, h⟩ := h
    cases b
    · obtain ⟨t, v, h⟩ := h; rw [h]; rfl
    · simp only [if_true] at h; rw [h]; rfl
  | nil => intro cs fp h; rw [h.1]; rfl
  | st xs ih => intro cs fp h; exact ih cs fp h
  | ptr x ih => intro cs fp h; obtain ⟨h0, ad, ds, h1, _⟩ := h; rw [h1]; rfl
  | clo g xs ih => intro cs fp h; obtain ⟨h0, ds, h1, _⟩ := h; rw [h1]; rfl
  | lnk q v => intro cs fp h; rw [h.1]; rfl
  | cons x xs ih1 ih2 =>
    intro cs fp h
    obtain ⟨c1, c2, f1, f2, e1, e2, h1, h2⟩ := h
    rw [e1, List.length_append, ih1 _ _ h1, ih2 _ _ h2]; rfl
  | sl own es xs ih => intro cs fp h; obtain ⟨h0, a, c, ds, fps, h1, _⟩ := h; rw [h1]; rfl

theorem rep_one : ∀ (d : D) (cs : List Value) (fp : List Nat), d.rep w M cs fp → ∀ u ∈ cs, u.oneCell' = true := by
  intro d
  induction d with
  | int k n => intro cs fp h; simp [h.1, Value.oneCell']
  | bool b => intro cs fp h; simp [h.1, Value.oneCell']
  | str s => intro cs fp h; simp [h.1, Value.oneCell']
  | err b =>
    intro cs fp h
    obtain ⟨_, h⟩ := h
    cases b
    · obtain ⟨t, v, h⟩ := h; simp [h, Value.oneCell']
    · simp only [if_true] at h; simp [h, Value.oneCell']
  | nil => intro cs fp h; simp [h.1]
  | st xs ih => intro cs fp h; exact ih cs fp h
  | ptr x ih => intro cs fp h; obtain ⟨h0, ad, ds, h1, _⟩ := h; simp [h1, Value.oneCell']
  | clo g xs ih => intro cs fp h; obtain ⟨h0, ds, h1, _⟩ := h; simp [h1, Value.oneCell']
  | lnk q v => intro cs fp h; simp [h.1, h.2.1]
  | cons x xs ih1 ih2 =>
    intro cs fp h u hu
    obtain ⟨c1, c2, f1, f2, e1, e2, h1, h2⟩ := h
    rw [e1, List.mem_append] at hu
    rcases hu with hu | hu
    · exact ih1 _ _ h1 u hu
    · exact ih2 _ _ h2 u hu
  | sl own es xs ih => intro cs fp h; obtain ⟨h0, a, c, ds, fps, h1, _⟩ := h; simp [h1, Value.oneCell']

theorem rep_lt : ∀ (d : D) (cs : List Value) (fp : List Nat), d.rep w M cs fp → ∀ b ∈ fp, b < w.heap.size := by
  intro d
  induction d with
  | int k n => intro cs fp h; simp [h.2]
  | bool b => intro cs fp h; simp [h.2]
  | str s => intro cs fp h; simp [h.2]
  | err b => intro cs fp h; simp [h.1]
  | nil => intro cs fp h; simp [h.2]
  | st xs ih => intro cs fp h; exact ih cs fp h
  | ptr x ih => intro cs fp h; simp [h.1]
  | clo g xs ih => intro cs fp h; simp [h.1]
  | lnk q v => intro cs fp h; simp [h.2.2]
  | cons x xs ih1 ih2 =>
    intro cs fp h u hu
    obtain ⟨c1, c2, f1, f2, e1, e2, h1, h2⟩ := h
    rw [e2, List.mem_append] at hu
    rcases hu with hu | hu
    · exact ih1 _ _ h1 u hu
    · exact ih2 _ _ h2 u hu
  | sl own es xs ih =>
    intro cs fp h
    simp only [D.rep] at h
    obtain ⟨_, a, c, ds, fps, h1, _, h3, h4⟩ := h
    cases own with
    | true =>
      simp only [if_true] at h4
      rcases h4 with ⟨_, _, hf⟩ | ⟨g, ha, hr, hf⟩
      · simp [hf]
      · intro b hb
        rw [hf] at hb
        rcases List.mem_cons.1 hb with hb | hb
        · rw [hb]; exact hr.lt
        · exact ih ds fps h3 b hb
    | false =>
      simp only [Bool.false_eq_true, if_false] at h4
      simp [h4.2.1]

theorem Holds.of_row {g n : Nat} {ds : List Value} (h : RowAt w g n ds) (hg : ¬ M g) : Holds w M ⟨g, 0, none⟩ ds := by
  refine .inr ⟨h.lt, hg, fun j u hu => ?_⟩
  obtain ⟨cur, E, h1, h2, h3⟩ := h
  have hadd : (⟨g, 0, none⟩ : Addr).add j = ⟨g, j, none⟩ := by unfold Addr.add; split <;> simp_all
  rw [hadd, h1.cell j]
  have hj : j < ds.length := by
    rcases Nat.lt_or_ge j ds.length with h | h
    · exact h
    · rw [List.getElem?_eq_none h] at hu; cases hu
  rw [← h3, List.getElem?_take, if_pos hj] at hu
  simpa using hu

theorem Holds.weaken {ad : Addr} {ds : List Value} (h : Holds w M ad ds) (hM : ∀ b, M' b → M b) : Holds w M' ad ds := by
  rcases h with h | ⟨h1, h2, h3⟩
  · exact .inl h
  · exact .inr ⟨h1, fun h => h2 (hM _ h), h3⟩

theorem unown_size : ∀ d : D, d.unown.size = d.size := by
  intro d
  induction d with
  | st xs ih => exact ih
  | cons x xs ih1 ih2 => simp only [D.unown, D.size, ih1, ih2]
  | _ => rfl
theorem unown_len : ∀ d : D, d.unown.len = d.len := by
  intro d
  induction d with
  | cons x xs ih1 ih2 => simp only [D.unown, D.len, ih2]
  | _ => rfl
theorem unown_isL {es : Nat} : ∀ d : D, d.isL es → d.unown.isL es := by
  intro d
  induction d with
  | cons x xs ih1 ih2 => intro h; exact ⟨by rw [unown_size]; exact h.1, ih2 h.2⟩
  | nil => intro h; exact h
  | _ => intro h; exact h.elim

/-- what is owned may be let go: it reads as shared, as long as nobody counts its blocks among the ones that are written. -/
theorem rep_unown : ∀ (d : D) (cs : List Value) (fp : List Nat), (∀ b, M' b → M b) → (∀ b ∈ fp, ¬ M' b) → d.rep w M cs fp → d.unown.rep w M' cs [] := by
  intro d
  induction d with
  | int k n => intro cs fp _ _ h; exact ⟨h.1, rfl⟩
  | bool b => intro cs fp _ _ h; exact ⟨h.1, rfl⟩
  | str s => intro cs fp _ _ h; exact ⟨h.1, rfl⟩
  | err b => intro cs fp _ _ h; exact ⟨rfl, h.2⟩
  | nil => intro cs fp _ _ h; exact ⟨h.1, rfl⟩
  | st xs ih => intro cs fp hM hf h; exact ih cs fp hM hf h
  | ptr x ih =>
    intro cs fp hM hf h
    obtain ⟨h0, ad, ds, h1, h2, h3⟩ := h
    exact ⟨rfl, ad, ds, h1, ih ds [] hM (fun _ h => by cases h) h2, h3.weaken hM⟩
  | clo g xs ih =>
    intro cs fp hM hf h
    obtain ⟨h0, ds, h1, h2⟩ := h
    exact ⟨rfl, ds, h1, ih ds [] hM (fun _ h => by cases h) h2⟩
  | lnk q v => intro cs fp _ _ h; exact ⟨h.1, h.2.1, rfl⟩
  | cons x xs ih1 ih2 =>
    intro cs fp hM hf h
    obtain ⟨c1, c2, f1, f2, e1, e2, h1, h2⟩ := h
    exact ⟨c1, c2, [], [], e1, rfl, ih1 c1 f1 hM (fun b hb => hf b (by simp [e2, hb])) h1, ih2 c2 f2 hM (fun b hb => hf b (by simp [e2, hb])) h2⟩
  | sl own es xs ih =>
    intro cs fp hM hf h
    simp only [D.unown, D.rep] at h ⊢
    obtain ⟨h0, a, c, ds, fps, h1, h2, h3, h4⟩ := h
    have hfps : ∀ b ∈ fps, ¬ M' b := by
      cases own with
      | true =>
        simp only [if_true] at h4
        rcases h4 with ⟨_, e, _⟩ | ⟨g, _, _, e⟩
        · simp [e]
        · intro b hb; exact hf b (by simp [e, hb])
      | false =>
        simp only [Bool.false_eq_true, if_false] at h4
        simp [h4.1]
    refine ⟨unown_isL _ h0, a, c, ds, [], by rw [unown_len]; exact h1, by rw [unown_len]; exact h2, ih ds fps hM hfps h3, ?_⟩
    simp only [Bool.false_eq_true, if_false, true_and]
    cases own with
    | true =>
      simp only [if_true] at h4
      rcases h4 with ⟨hc, _, _⟩ | ⟨g, ha, hr, e⟩
      · refine .inl ?_
        rw [unown_len]; omega
      · exact .inr ⟨_, ha, .of_row hr (hf g (by simp [e]))⟩
    | false =>
      simp only [Bool.false_eq_true, if_false] at h4
      exact h4.2.2.imp (fun h => by rw [unown_len]; exact h) fun ⟨ad, h5, h6⟩ => ⟨ad, h5, h6.weaken hM⟩

/-- what owns all that it leads to asks nothing of the blocks that others own. -/
theorem rep_allOwn : ∀ (d : D) (cs : List Value) (fp : List Nat), d.allOwn = true → d.rep w M cs fp → d.rep w M' cs fp := by
  intro d
  induction d with
  | st xs ih => intro cs fp ho h; exact ih cs fp ho h
  | ptr x ih => intro cs fp ho h; cases ho
  | clo g xs ih => intro cs fp ho h; cases ho
  | cons x xs ih1 ih2 =>
    intro cs fp ho h
    simp only [D.allOwn, Bool.and_eq_true] at ho
    obtain ⟨c1, c2, f1, f2, e1, e2, h1, h2⟩ := h
    exact ⟨c1, c2, f1, f2, e1, e2, ih1 c1 f1 ho.1 h1, ih2 c2 f2 ho.2 h2⟩
  | sl own es xs ih =>
    intro cs fp ho h
    simp only [D.allOwn, Bool.and_eq_true] at ho
    simp only [D.rep] at h ⊢
    obtain ⟨h0, a, c, ds, fps, h1, h2, h3, h4⟩ := h
    refine ⟨h0, a, c, ds, fps, h1, h2, ih ds fps ho.2 h3, ?_⟩
    simp only [ho.1, if_true] at h4 ⊢
    exact h4
  | _ => intro cs fp _ h; exact h

theorem rep_noOwn : ∀ (d : D) (cs : List Value) (fp : List Nat), d.noOwn = true → d.rep w M cs fp → fp = [] := by
  intro d
  induction d with
  | int k n => intro cs fp _ h; exact h.2
  | bool b => intro cs fp _ h; exact h.2
  | str s => intro cs fp _ h; exact h.2
  | err b => intro cs fp _ h; exact h.1
  | nil => intro cs fp _ h; exact h.2
  | st xs ih => intro cs fp ho h; exact ih cs fp ho h
  | ptr x ih => intro cs fp ho h; exact h.1
  | clo g xs ih => intro cs fp ho h; exact h.1
  | lnk q v => intro cs fp ho h; exact h.2.2
  | cons x xs ih1 ih2 =>
    intro cs fp ho h
    simp only [D.noOwn, Bool.and_eq_true] at ho
    obtain ⟨c1, c2, f1, f2, e1, e2, h1, h2⟩ := h
    rw [e2, ih1 c1 f1 ho.1 h1, ih2 c2 f2 ho.2 h2]; rfl
  | sl own es xs ih =>
    intro cs fp ho h
    simp only [D.noOwn, Bool.and_eq_true, Bool.not_eq_true'] at ho
    simp only [D.rep] at h
    obtain ⟨h0, a, c, ds, fps, h1, h2, h3, h4⟩ := h
    simp only [ho.1, Bool.false_eq_true, if_false] at h4
    exact h4.2.1

theorem len_ofL : ∀ xs : List D, (ofL xs).len = xs.length
  | [] => rfl
  | x :: xs => by simp [ofL, D.len, len_ofL xs]
theorem nth_ofL : ∀ (xs : List D) (i : Nat), (ofL xs).nth i = xs[i]?
  | [], i => by cases i <;> rfl
  | x :: xs, 0 => rfl
  | x :: xs, i + 1 => by simp [ofL, D.nth, nth_ofL xs i]
theorem isL_ofL {es : Nat} : ∀ xs : List D, (ofL xs).isL es ↔ ∀ x ∈ xs, x.size = es
  | [] => by simp [ofL, D.isL]
  | x :: xs => by simp [ofL, D.isL, isL_ofL xs]
theorem ofL_of_isL {es : Nat} : ∀ d : D, d.isL es → ∃ xs, d = ofL xs := by
  intro d
  induction d with
  | nil => intro _; exact ⟨[], rfl⟩
  | cons x xs ih1 ih2 => intro h; obtain ⟨ys, rfl⟩ := ih2 h.2; exact ⟨x :: ys, rfl⟩
  | _ => intro h; exact h.elim
theorem unown_ofL : ∀ xs : List D, (ofL xs).unown = ofL (xs.map D.unown)
  | [] => rfl
  | x :: xs => by simp [ofL, D.unown, unown_ofL xs]
theorem size_ofL {es : Nat} : ∀ (xs : List D), (∀ x ∈ xs, x.size = es) → (ofL xs).size = xs.length * es
  | [], _ => by simp [ofL, D.size]
  | x :: xs, h => by
    simp only [ofL, D.size, h x (by simp), size_ofL xs (fun y hy => h y (by simp [hy])), List.length_cons, Nat.succ_mul]
    omega

theorem rep_append : ∀ (xs ys : List D) (cs : List Value) (fp : List Nat),
    (ofL (xs ++ ys)).rep w M cs fp ↔ ∃ c1 c2 f1 f2, cs = c1 ++ c2 ∧ fp = f1 ++ f2 ∧ (ofL xs).rep w M c1 f1 ∧ (ofL ys).rep w M c2 f2
  | [], ys, cs, fp => by
    constructor
    · intro h; exact ⟨[], cs, [], fp, rfl, rfl, ⟨rfl, rfl⟩, h⟩
    · rintro ⟨c1, c2, f1, f2, rfl, rfl, ⟨rfl, rfl⟩, h2⟩; exact h2
  | x :: xs, ys, cs, fp => by
    constructor
    · rintro ⟨c1, c2, f1, f2, rfl, rfl, h1, h2⟩
      obtain ⟨c3, c4, f3, f4, rfl, rfl, h3, h4⟩ := (rep_append xs ys c2 f2).1 h2
      exact ⟨c1 ++ c3, c4, f1 ++ f3, f4, by simp, by simp, ⟨c1, c3, f1, f3, rfl, rfl, h1, h3⟩, h4⟩
    · rintro ⟨c1, c2, f1, f2, rfl, rfl, ⟨c3, c4, f3, f4, rfl, rfl, h3, h4⟩, h2⟩
      exact ⟨c3, c4 ++ c2, f3, f4 ++ f2, by simp, by simp, h3, (rep_append xs ys _ _).2 ⟨c4, c2, f4, f2, rfl, rfl, h4, h2⟩⟩

theorem lt_of_get {α : Type} {xs : List α} {i : Nat} {x : α} (h : xs[i]? = some x) : i < xs.length := by
  rcases Nat.lt_or_ge i xs.length with h' | h'
  · exact h'
  · rw [List.getElem?_eq_none h'] at h; cases h

/-- element number `i` of a row, its cells apart. -/
theorem rep_get {es i : Nat} {x : D} {xs : List D} {cs : List Value} {fp : List Nat} (hu : ∀ x ∈ xs, x.size = es) (h : (ofL xs).rep w M cs fp) (hi : xs[i]? = some x) :
    ∃ f1 f f2, fp = f1 ++ f ++ f2 ∧ (ofL (xs.take i)).rep w M (cs.take (i * es)) f1 ∧ x.rep w M ((cs.drop (i * es)).take es) f ∧ (ofL (xs.drop (i + 1))).rep w M (cs.drop ((i + 1) * es)) f2 := by
  have hi' := lt_of_get hi
  have hx : x = xs[i] := by rw [List.getElem?_eq_getElem hi'] at hi; injection hi with hi; exact hi.symm
  have hsplit : xs = xs.take i ++ (x :: xs.drop (i + 1)) := by
    rw [hx, ← List.drop_eq_getElem_cons hi', List.take_append_drop]
  rw [hsplit] at h
  obtain ⟨c1, c2, f1, f2, e1, e2, h1, h2⟩ := (rep_append _ _ _ _).1 h
  obtain ⟨c3, c4, f3, f4, e3, e4, h3, h4⟩ := h2
  have l1 : c1.length = i * es := by
    rw [rep_length _ _ _ h1, size_ofL _ (fun y hy => hu y (List.mem_of_mem_take hy)), List.length_take, Nat.min_eq_left (by omega)]
  have l3 : c3.length = es := by rw [rep_length _ _ _ h3]; exact hu x (by rw [hsplit]; simp)
  subst e1 e2 e3 e4
  refine ⟨f1, f3, f4, by simp, ?_, ?_, ?_⟩
  · rw [List.take_append_of_le_length (by omega), ← l1, List.take_length]; exact h1
  · rw [← l1, List.drop_left, ← l3, List.take_left]; exact h3
  · have : (i + 1) * es = (c1 ++ c3).length := by simp [l1, l3, Nat.succ_mul]
    rw [this, ← List.append_assoc, List.drop_left]; exact h4
end
end Go.Pe

/- The compact form of the code, what a state of the abstract walk is, and what it says of frame and world. -/
namespace Go.Pe
open Go Go.RowKit

/-- what is known of the value in a temporary. -/
inductive SV where
  | any
  | undef
  | d (x : D)
  | nil
  | own (r : Nat)
  | ptr (r off : Nat) (p : List Nat)
  | el (r es i off : Nat) (p : List Nat)
  | vw (r : Nat)
  /-- what of an own slice lies from number lo on (something does). -/
  | win (r es lo : Nat)
  | tup (xs : List SV)

/-- an object of the call's own: gone; a value with what it owns; a variable in memory. -/
inductive Ob where
  | dead
  | val (x : D)
  | box (x : D)
  /-- no object: it says that object r has the value v. -/
  | tag (r : Nat) (v : Value)

/-- where an object lies: its value, its block, the blocks that it owns. -/
structure OC where
  v : Value
  blk : Nat
  fp : List Nat

abbrev Env := List (Nat × SV)

def look : Env → Nat → SV
  | [], _ => .any
  | (k, s) :: e, t => if k = t then s else look e t

def putE (e : Env) (dst : Option Nat) (s : SV) : Env :=
  match dst with
  | some t => (t, s) :: e
  | none => e

inductive Opd where
  | t (n : Nat)
  | k (s : SV)

def evO (e : Env) : Opd → SV
  | .t n => look e n
  | .k s => s

structure St where
  e : Env
  o : List Ob

def pack (x : D) (cs : List Value) : Value :=
  match x with
  | .st _ => .agg cs.toArray
  | _ => cs.headD Go.undef

def RelV0 (w : World) (M : Nat → Prop) (C : List OC) : SV → Value → Prop
  | .any, _ => True
  | .undef, v => v = Go.undef
  | .d x, v => ∃ cs, x.rep w M cs [] ∧ v = pack x cs
  | .nil, v => v = .slice none 0 0
  | .own r, v => ∃ oc, C[r]? = some oc ∧ v = oc.v
  | .ptr r off _, v => ∃ oc, C[r]? = some oc ∧ v = .pointer (some ⟨oc.blk, off, none⟩)
  | .el r es i off _, v => ∃ oc g n c, C[r]? = some oc ∧ oc.v = .slice (some ⟨g, 0, none⟩) n c ∧ v = .pointer (some ⟨g, i * es + off, none⟩)
  | .vw r, v => ∃ oc cs, C[r]? = some oc ∧ oc.blk ∈ oc.fp ∧ RowAt w oc.blk cs.length cs ∧ v = .agg cs.toArray
  | .win r es lo, v => ∃ oc g n c, C[r]? = some oc ∧ oc.v = .slice (some ⟨g, 0, none⟩) n c ∧ lo < n ∧ n ≤ c ∧ v = .slice (some ⟨g, lo * es, none⟩) (n - lo) (c - lo)
  | .tup _, _ => False

def RelV (w : World) (M : Nat → Prop) (C : List OC) : SV → Value → Prop
  | .tup xs, v => ∃ vs : List Value, v = .tuple vs.toArray ∧ vs.length = xs.length ∧ ∀ (i : Nat) (s : SV) (u : Value), xs[i]? = some s → vs[i]? = some u → RelV0 w M C s u
  | s, v => RelV0 w M C s v

def ObRel (w : World) (M : Nat → Prop) : Ob → OC → Prop
  | .dead, oc => oc.fp = []
  | .tag _ _, oc => oc.fp = []
  | .val x, oc => ∃ cs, x.rep w M cs oc.fp ∧ oc.v = pack x cs
  | .box x, oc => ∃ cs fps, RowAt w oc.blk cs.length cs ∧ x.rep w M cs fps ∧ oc.fp = oc.blk :: fps

/-- a program, and what is known of the memory that its start-up code left (whoever adds memory keeps it). -/
structure PG where
  P : Program
  F : World → Prop
  stab : ∀ w w' : World, w.heap.size ≤ w'.heap.size → (∀ b, b < w.heap.size → w'.heap[b]? = w.heap[b]?) → F w → F w'

/-- what is known of it lies in blocks that nobody writes any more. -/
def GOK (G : PG) (w : World) (M : Nat → Prop) : Prop := ∃ w0 : World, G.F w0 ∧ w0.heap.size ≤ w.heap.size ∧ ∀ b, b < w0.heap.size → ¬ M b ∧ w.heap[b]? = w0.heap[b]?
theorem GOK.fact {G : PG} {w : World} {M : Nat → Prop} (h : GOK G w M) : G.F w := by
  obtain ⟨w0, h1, h2, h3⟩ := h
  exact G.stab w0 w h2 (fun b hb => (h3 b hb).2) h1
theorem GOK.frame {G : PG} {w w' : World} {M M' : Nat → Prop} (h : GOK G w M) (hM : ∀ b, b < w.heap.size → M' b → M b) (hs : w.heap.size ≤ w'.heap.size) (hk : ∀ b, b < w.heap.size → ¬ M b → w'.heap[b]? = w.heap[b]?) : GOK G w' M' := by
  obtain ⟨w0, h1, h2, h3⟩ := h
  exact ⟨w0, h1, Nat.le_trans h2 hs, fun b hb => ⟨fun h => (h3 b hb).1 (hM b (by omega) h), by rw [hk b (by omega) (h3 b hb).1]; exact (h3 b hb).2⟩⟩

/-- what stands fixed while one call is walked: the program, the number of temporaries, the world in which the call began, the blocks that others own, the blocks that the call was given. -/
structure Ctx where
  G : PG
  n : Nat
  w0 : World
  M0 : Nat → Prop
  g0 : List Nat
  lo : Nat
  fx : Nat → Value

abbrev Ctx.P (c : Ctx) : Program := c.G.P
def Ctx.nn (c : Ctx) : Nat × Nat := (c.lo, c.n)

def Fps (C : List OC) : List Nat := C.flatMap OC.fp
def Ms (c : Ctx) (C : List OC) (b : Nat) : Prop := c.M0 b ∨ b ∈ Fps C

/-- the world's part. -/
structure RelW (c : Ctx) (o : List Ob) (C : List OC) (w : World) : Prop where
  len : o.length = C.length
  obs : ∀ (r : Nat) (ob : Ob) (oc : OC), o[r]? = some ob → C[r]? = some oc → ObRel w (Ms c C) ob oc
  tags : ∀ (q r : Nat) (v : Value), o[q]? = some (.tag r v) → ∃ oc, C[r]? = some oc ∧ oc.v = v
  nodup : (Fps C).Nodup
  lt : ∀ b ∈ Fps C, b < w.heap.size
  apart : ∀ b ∈ Fps C, ¬ c.M0 b
  mine : ∀ b ∈ Fps C, c.w0.heap.size ≤ b ∨ b ∈ c.g0
  os : w.os = c.w0.os
  tape : w.tape = c.w0.tape
  output : w.output = c.w0.output
  size : c.w0.heap.size ≤ w.heap.size
  kept : ∀ b, b < c.w0.heap.size → b ∉ c.g0 → w.heap[b]? = c.w0.heap[b]?
  m0 : ∀ b, c.M0 b → b < c.w0.heap.size
  glob : GOK c.G w (Ms c C)

structure Rel (c : Ctx) (s : St) (C : List OC) (a : Act) (w : World) : Prop where
  tmps : a.tmps.size = c.n
  defers : a.defers = []
  env : ∀ t, RelV w (Ms c C) C (look s.e t) (a.tmps.getD t Go.undef)
  wd : RelW c s.o C w
  fix : ∀ t, t < c.lo → a.tmps.getD t Go.undef = c.fx t

/-- old memory stays; more may come. -/
def Ext (w w' : World) : Prop := Below w.heap.size w w'

theorem Ext.refl (w : World) : Ext w w := Below.refl _ w
theorem Ext.trans {a b c : World} (h : Ext a b) (k : Ext b c) : Ext a c := Below.trans h (Below.mono k h.size)

section
variable {c : Ctx} {o : List Ob} {C : List OC} {w w' : World}

theorem Ms.lt (h : RelW c o C w) {b : Nat} (hb : Ms c C b) : b < w.heap.size := by
  rcases hb with hb | hb
  · exact Nat.lt_of_lt_of_le (h.m0 b hb) h.size
  · exact h.lt b hb

theorem rep_ext {M : Nat → Prop} {d : D} {cs : List Value} {fp : List Nat} (hx : Ext w w') (h : d.rep w M cs fp) : d.rep w' M cs fp :=
  rep_frame hx.size (fun _ _ h => h) d cs fp (fun b hb _ => hx.block b hb) h

theorem RelV0.ext {M : Nat → Prop} {s : SV} {v : Value} (hx : Ext w w') (h : RelV0 w M C s v) : RelV0 w' M C s v := by
  cases s with
  | d x => obtain ⟨cs, h1, h2⟩ := h; exact ⟨cs, rep_ext hx h1, h2⟩
  | vw r => obtain ⟨oc, cs, h1, h2, h3, h4⟩ := h; exact ⟨oc, cs, h1, h2, h3.frame (hx.block _ h3.lt), h4⟩
  | _ => exact h

theorem RelV.ext {M : Nat → Prop} {s : SV} {v : Value} (hx : Ext w w') (h : RelV w M C s v) : RelV w' M C s v := by
  cases s with
  | tup xs => obtain ⟨vs, h1, h2, h3⟩ := h; exact ⟨vs, h1, h2, fun i s u hs hu => (h3 i s u hs hu).ext hx⟩
  | any => exact trivial
  | undef => exact h
  | d x => exact RelV0.ext (C := C) (M := M) (s := .d x) hx h
  | nil => exact h
  | own r => exact RelV0.ext (C := C) (M := M) (s := .own r) hx h
  | ptr r off p => exact RelV0.ext (C := C) (M := M) (s := .ptr r off p) hx h
  | el r es i off p => exact RelV0.ext (C := C) (M := M) (s := .el r es i off p) hx h
  | vw r => exact RelV0.ext (C := C) (M := M) (s := .vw r) hx h
  | win r es lo => exact RelV0.ext (C := C) (M := M) (s := .win r es lo) hx h

theorem ObRel.ext {M : Nat → Prop} {ob : Ob} {oc : OC} (hx : Ext w w') (h : ObRel w M ob oc) : ObRel w' M ob oc := by
  cases ob with
  | dead => exact h
  | tag _ _ => exact h
  | val x => obtain ⟨cs, h1, h2⟩ := h; exact ⟨cs, rep_ext hx h1, h2⟩
  | box x => obtain ⟨cs, fps, h1, h2, h3⟩ := h; exact ⟨cs, fps, h1.frame (hx.block _ h1.lt), rep_ext hx h2, h3⟩

theorem RelW.ext (hx : Ext w w') (h : RelW c o C w) : RelW c o C w' where
  len := h.len
  obs := fun r ob oc h1 h2 => (h.obs r ob oc h1 h2).ext hx
  tags := h.tags
  nodup := h.nodup
  lt := fun b hb => Nat.lt_of_lt_of_le (h.lt b hb) hx.size
  apart := h.apart
  mine := h.mine
  os := hx.os.trans h.os
  tape := hx.tape.trans h.tape
  output := hx.output.trans h.output
  size := Nat.le_trans h.size hx.size
  kept := fun b hb hn => (hx.block b (Nat.lt_of_lt_of_le hb h.size)).trans (h.kept b hb hn)
  m0 := h.m0
  glob := h.glob.frame (fun _ _ h => h) hx.size (fun b hb _ => hx.block b hb)
end

theorem look_put (e : Env) (dst : Option Nat) (s : SV) (t : Nat) : look (putE e dst s) t = if dst = some t then s else look e t := by
  cases dst with
  | none => rfl
  | some d => simp only [putE, look, Option.some.injEq]

theorem put_getD (a : Act) (dst : Option Nat) (v : Value) (t : Nat) (h : ∀ d, dst = some d → d < a.tmps.size) : (a.put dst v).tmps.getD t Go.undef = if dst = some t then v else a.tmps.getD t Go.undef := by
  cases dst with
  | none => rfl
  | some d =>
    have hd := h d rfl
    simp only [Act.put, Option.some.injEq, Array.getD_eq_getD_getElem?, Array.getElem?_setIfInBounds]
    by_cases e : d = t
    · subst e; simp [hd]
    · simp [e]

theorem put_size (a : Act) (dst : Option Nat) (v : Value) : (a.put dst v).tmps.size = a.tmps.size := by cases dst <;> simp [Act.put]
theorem put_defers (a : Act) (dst : Option Nat) (v : Value) : (a.put dst v).defers = a.defers := by cases dst <;> rfl

/-- a new value comes into a temporary. -/
theorem put_fix {c : Ctx} {a : Act} {dst : Option Nat} {v : Value} (hs : a.tmps.size = c.n) (hd : ∀ d, dst = some d → c.lo ≤ d ∧ d < c.n) (h : ∀ t, t < c.lo → a.tmps.getD t Go.undef = c.fx t) (t : Nat) (ht : t < c.lo) :
    (a.put dst v).tmps.getD t Go.undef = c.fx t := by
  rw [put_getD _ _ _ _ (by rw [hs]; exact fun d e => (hd d e).2)]
  have : dst ≠ some t := fun e => by have := (hd t e).1; omega
  simp only [this, if_false]
  exact h t ht

theorem Rel.put {c : Ctx} {s : St} {C : List OC} {a : Act} {w w' : World} {dst : Option Nat} {sv : SV} {v : Value} (h : Rel c s C a w) (hx : Ext w w') (hd : ∀ d, dst = some d → c.lo ≤ d ∧ d < c.n)
    (hv : RelV w' (Ms c C) C sv v) : Rel c ⟨putE s.e dst sv, s.o⟩ C (a.put dst v) w' where
  tmps := by rw [put_size]; exact h.tmps
  defers := by rw [put_defers]; exact h.defers
  env := fun t => by
    rw [look_put, put_getD _ _ _ _ (by rw [h.tmps]; exact fun d e => (hd d e).2)]
    by_cases e : dst = some t
    · simp only [e, if_true]; exact hv
    · simp only [e, if_false]; exact (h.env t).ext hx
  wd := h.wd.ext hx
  fix := put_fix h.tmps hd h.fix
end Go.Pe

/- Contracts; the compact operations; the walk of an operation that writes nothing, and that it is sound. -/
namespace Go.Pe
open Go Go.RowKit

def RepVs (w : World) (M : Nat → Prop) : List D → List Value → List Nat → Prop
  | [], vs, fp => vs = [] ∧ fp = []
  | x :: xs, vs, fp => ∃ cs us f1 f2, vs = pack x cs :: us ∧ fp = f1 ++ f2 ∧ x.rep w M cs f1 ∧ RepVs w M xs us f2

def retV : List Value → Value
  | [v] => v
  | vs => .tuple vs.toArray

/-- THE CONTRACT: called with values that represent 'ds', function f returns values that represent some 'rs' of which R holds: what they own is new; all that was there before stays. -/
def Fn (P : PG) (f : FuncId) (ds : List D) (R : List D → Prop) : Prop :=
  ∀ (M : Nat → Prop) (vs : List Value) (w : World), (∀ b, M b → b < w.heap.size) → GOK P w M → RepVs w M ds vs [] →
    Calls P.P f vs.toArray w fun e w' => ∃ rs us fp, e = .returned (retV us) ∧ R rs ∧ RepVs w' (fun b => M b ∨ b ∈ fp) rs us fp ∧ fp.Nodup ∧ (∀ b ∈ fp, w.heap.size ≤ b) ∧ Ext w w'

/-- the compact operations. -/
inductive MO where
  | mov (x : Opd)
  | pick (c a b : Opd)
  | bin (op : BinOp) (x y : Opd)
  | bb (op : BinOp) (x y : Opd)
  | ie (op : BinOp) (x y : Opd)
  | un (op : UnOp) (x : Opd)
  | nck (x : Opd)
  | ld (agg : Option Nat) (x : Opd)
  | fa (f off : Nat) (x : Opd)
  | ia (es : Nat) (x i : Opd)
  | ix (x i : Opd)
  | len (str : Bool) (x : Opd)
  | ext (x : Opd) (i : Nat)
  | conv (k : IntKind) (x : Opd)
  | sls (x : Opd) (lo hi : Option Opd)
  | slx (es : Nat) (x : Opd) (lo hi : Option Opd)
  | callP (f : FuncId) (args : List Opd)
  | mx (big : Bool) (x y : Opd)
  | call (f : FuncId) (args : List Opd)
  | box (x : Opd)
  | alloc (z : D)
  | st (n : Nat) (x v : Opd)
  | app (es bytes : Nat) (s x : Opd)
  | bs (es len : Nat) (z : D) (ps : List (Nat × Opd))
  | mk (es bytes : Nat) (z : D) (n : Opd)
  | bld (z : D) (ps : List (Nat × Opd))
  | sl0 (es : Nat) (x : Opd)
  | shr (x y : Opd)
  | b2s (x : Opd)
  | s2b (x : Opd)
  | clos (g : FuncId) (caps : List Opd)
  | callV (f : Opd) (args : List Opd)
  | callW (f : Opd) (args : List Opd)
  | snil (neg : Bool) (x : Opd)
  | clr (es : Nat) (z : D) (x : Opd)
  | cut (es : Nat) (x hi : Opd)
  /-- flat structs compared (the kinds of their fields: 0 number, 1 truth value, 2 text). -/
  | sq (neg : Bool) (ks : List Nat) (x y : Opd)
  /-- a struct with deep parts loaded: what a variable of the call's own holds is seen as it stands. -/
  | ldv (n : Nat) (x : Opd)
  /-- the address of a cell of an array. -/
  | iar (m es : Nat) (x i : Opd)

structure MOp where
  dst : Option Nat
  g : Option (Nat × Bool)
  eff : Bool
  op : MO

def argOf (o : List Ob) : SV → D → Prop
  | .d x, d => d = x
  | .own r, d => ∃ x, o[r]? = some (.val x) ∧ d = x.unown
  | .vw r, d => ∃ xs, o[r]? = some (.box (.st xs)) ∧ d = .st xs.unown
  | .nil, d => ∃ es, d = .sl false es .nil
  | _, _ => False
def argsOf (o : List Ob) : List SV → List D → Prop
  | [], ds => ds = []
  | s :: ss, ds => ∃ x xs, ds = x :: xs ∧ argOf o s x ∧ argsOf o ss xs

def isD : SV → Bool
  | .d _ => true
  | .nil => true
  | _ => false

def resSV : List D → SV
  | [x] => .d x
  | xs => .tup (xs.map .d)

def D.pre : D → Nat → Nat
  | .cons x xs, n + 1 => x.size + xs.pre n
  | _, _ => 0

def dget : List Nat → D → Option D
  | [], x => some x
  | f :: p, .st xs => match xs.nth f with
    | some x => dget p x
    | none => none
  | _ :: _, _ => none
def doff : List Nat → D → Nat
  | [], _ => 0
  | f :: p, .st xs => xs.pre f + (match xs.nth f with
    | some x => doff p x
    | none => 0)
  | _ :: _, _ => 0

/-- the bounds of an int kind, in numerals. -/
def InR : IntKind → Int → Prop
  | .i64, n => -9223372036854775808 ≤ n ∧ n ≤ 9223372036854775807
  | .u8, n => 0 ≤ n ∧ n ≤ 255
  | k, n => k.wrap n = n

def stepInt (op : BinOp) (k : IntKind) (a b : Int) (K : SV → Prop) : Prop :=
  match op with
  | .add => (InR k (a + b) ∧ K (.d (.int k (a + b)))) ∨ K (.d (.int k (k.wrap (a + b))))
  | .sub => (InR k (a - b) ∧ K (.d (.int k (a - b)))) ∨ K (.d (.int k (k.wrap (a - b))))
  | .mul => (InR k (a * b) ∧ K (.d (.int k (a * b)))) ∨ K (.d (.int k (k.wrap (a * b))))
  | .quo => b ≠ 0 ∧ ((InR k (a.tdiv b) ∧ K (.d (.int k (a.tdiv b)))) ∨ K (.d (.int k (k.wrap (a.tdiv b)))))
  | .rem => b ≠ 0 ∧ K (.d (.int k (a.tmod b)))
  | .and => K (.d (.int k (bits .and k a b)))
  | .or => K (.d (.int k (bits .or k a b)))
  | .xor => K (.d (.int k (bits .xor k a b)))
  | .eql => K (.d (.bool (decide (a = b))))
  | .neq => K (.d (.bool (!decide (a = b))))
  | .lss => K (.d (.bool (decide (a < b))))
  | .leq => K (.d (.bool (decide (a ≤ b))))
  | .gtr => K (.d (.bool (decide (b < a))))
  | .geq => K (.d (.bool (decide (b ≤ a))))
  | _ => False

def stepStr (op : BinOp) (a b : List UInt8) (K : SV → Prop) : Prop :=
  match op with
  | .add => a.length + b.length ≤ 9223372036854775807 ∧ K (.d (.str (a ++ b)))
  | .eql => K (.d (.bool (decide (a = b))))
  | .neq => K (.d (.bool (!decide (a = b))))
  | .lss => K (.d (.bool (Op.bytesLess a b)))
  | _ => False

def stepBool (op : BinOp) (a b : Bool) (K : SV → Prop) : Prop :=
  match op with
  | .eql => K (.d (.bool (a == b)))
  | .neq => K (.d (.bool (!(a == b))))
  | _ => False

def stepBin (op : BinOp) (x y : SV) (K : SV → Prop) : Prop :=
  match x, y with
  | .d (.int k a), .d (.int k' b) => k = k' ∧ stepInt op k a b K
  | .d (.str a), .d (.str b) => stepStr op a b K
  | _, _ => False

def stepBB (op : BinOp) (x y : SV) (K : SV → Prop) : Prop :=
  match x, y with
  | .d (.bool a), .d (.bool b) => stepBool op a b K
  | _, _ => False

def stepIe (op : BinOp) (x y : SV) (K : SV → Prop) : Prop :=
  match op, x, y with
  | .eql, .d (.err a), .d (.err true) => K (.d (.bool a))
  | .neq, .d (.err a), .d (.err true) => K (.d (.bool (!a)))
  | _, _, _ => False

def stepUn (op : UnOp) (x : SV) (K : SV → Prop) : Prop :=
  match op, x with
  | .not, .d (.bool b) => K (.d (.bool (!b)))
  | .neg, .d (.int k n) => (InR k (-n) ∧ K (.d (.int k (-n)))) ∨ K (.d (.int k (k.wrap (-n))))
  | _, _ => False

def stepLen (o : List Ob) (str : Bool) (x : SV) (K : SV → Prop) : Prop :=
  match str, x with
  | true, .d (.str s) => K (.d (.int .i64 s.length))
  | false, .d (.sl _ _ xs) => K (.d (.int .i64 xs.len))
  | false, .nil => K (.d (.int .i64 0))
  | false, .own r => ∃ es xs ow, o[r]? = some (.val (.sl ow es xs)) ∧ K (.d (.int .i64 xs.len))
  | _, _ => False

def evF (E : Nat → SV) : Opd → SV
  | .t n => E n
  | .k s => s
def evOO (E : Nat → SV) : Option Opd → Option SV
  | some x => some (evF E x)
  | none => none

def stepIx (x i : SV) (K : SV → Prop) : Prop :=
  match x, i with
  | .d (.str s), .d (.int _ n) => ∃ b, 0 ≤ n ∧ s[n.toNat]? = some b ∧ K (.d (.int .u8 (b.toNat : Int)))
  | _, _ => False

def stepIa (o : List Ob) (es : Nat) (x i : SV) (K : SV → Prop) : Prop :=
  match x, i with
  | .d (.sl _ es' xs), .d (.int _ n) => es' = es ∧ ∃ y, 0 ≤ n ∧ xs.nth n.toNat = some y ∧ K (.d (.ptr y))
  | .own r, .d (.int _ n) => ∃ xs y, o[r]? = some (.val (.sl true es xs)) ∧ 0 ≤ n ∧ xs.nth n.toNat = some y ∧ K (.el r es n.toNat 0 [])
  | _, _ => False

/-- a part that owns nothing may be read out. -/
def stepRd (o : List Ob) (agg : Option Nat) (y : D) (K : SV → Prop) : Prop :=
  match agg, y with
  | none, .st _ => False
  | none, .nil => False
  | none, .cons _ _ => False
  | none, .lnk q v => ∃ r, o[q]? = some (.tag r v) ∧ K (.own r)
  | none, y => y.noOwn = true ∧ K (.d y)
  | some n, .st xs => xs.size = n ∧ xs.noOwn = true ∧ K (.d (.st xs))
  | some _, _ => False

def stepLd (o : List Ob) (agg : Option Nat) (x : SV) (K : SV → Prop) : Prop :=
  match x with
  | .d (.ptr y) => stepRd o agg y K
  | .ptr r off p => ∃ z, o[r]? = some (.box z) ∧ doff p z = off ∧ ∃ y, dget p z = some y ∧ stepRd o agg y K
  | .el r es i off p => ∃ xs z, o[r]? = some (.val (.sl true es xs)) ∧ xs.nth i = some z ∧ doff p z = off ∧ ∃ y, dget p z = some y ∧ stepRd o agg y K
  | _ => False

def stepRdv (o : List Ob) (r : Nat) (p : List Nat) (n : Nat) (y : D) (K : SV → Prop) : Prop :=
  (y.noOwn = true → stepRd o (some n) y K) ∧ (y.noOwn = false → p = [] ∧ y.size = n ∧ (∃ ys, y = .st ys) ∧ K (.vw r))
def stepLdv (o : List Ob) (n : Nat) (x : SV) (K : SV → Prop) : Prop :=
  match x with
  | .ptr r off p => ∃ z, o[r]? = some (.box z) ∧ doff p z = off ∧ ∃ y, dget p z = some y ∧ stepRdv o r p n y K
  | x => stepLd o (some n) x K

def stepFa (f off : Nat) (x : SV) (K : SV → Prop) : Prop :=
  match x with
  | .d (.ptr (.st xs)) => xs.pre f = off ∧ ∃ y, xs.nth f = some y ∧ K (.d (.ptr y))
  | .ptr r off' p => K (.ptr r (off' + off) (p ++ [f]))
  | .el r es i off' p => K (.el r es i (off' + off) (p ++ [f]))
  | _ => False

def stepExt (x : SV) (i : Nat) (K : SV → Prop) : Prop :=
  match x with
  | .tup xs => ∃ s, xs[i]? = some s ∧ K s
  | _ => False

def stepConv (k : IntKind) (x : SV) (K : SV → Prop) : Prop :=
  match x with
  | .d (.int _ n) => (InR k n ∧ K (.d (.int k n))) ∨ K (.d (.int k (k.wrap n)))
  | _ => False

def stepSls (x : SV) (lo hi : Option SV) (K : SV → Prop) : Prop :=
  match x with
  | .d (.str s) => match lo, hi with
    | some (.d (.int _ a)), none => 0 ≤ a ∧ a ≤ s.length ∧ K (.d (.str (s.drop a.toNat)))
    | none, some (.d (.int _ b)) => 0 ≤ b ∧ b ≤ s.length ∧ K (.d (.str (s.take b.toNat)))
    | some (.d (.int _ a)), some (.d (.int _ b)) => 0 ≤ a ∧ a ≤ b ∧ b ≤ s.length ∧ K (.d (.str ((s.take b.toNat).drop a.toNat)))
    | none, none => K (.d (.str s))
    | _, _ => False
  | _ => False

/-- the bounds of a slice of a slice of n elements. -/
def sliceB (lo hi : Option SV) (n : Nat) (K : Nat → Nat → Prop) : Prop :=
  match lo, hi with
  | none, none => K 0 n
  | some (.d (.int _ a)), none => (0 ≤ a ∧ a ≤ n) ∧ K a.toNat n
  | none, some (.d (.int _ b)) => (0 ≤ b ∧ b ≤ n) ∧ K 0 b.toNat
  | some (.d (.int _ a)), some (.d (.int _ b)) => (0 ≤ a ∧ a ≤ b ∧ b ≤ n) ∧ K a.toNat b.toNat
  | _, _ => False

def D.dropD : Nat → D → D
  | 0, d => d
  | n + 1, .cons _ xs => xs.dropD n
  | _ + 1, _ => .nil
def D.takeD : Nat → D → D
  | n + 1, .cons x xs => .cons x (xs.takeD n)
  | _, _ => .nil
def D.sub (a b : Nat) (xs : D) : D := (xs.takeD b).dropD a

/-- a slice of an own slice: one that was frozen reads as shared data; of one that may still change the end alone is taken. -/
def stepSlo (r es : Nat) (ow : Bool) (xs : D) (lo hi : Option SV) (K : SV → Prop) : Prop :=
  match ow, lo, hi with
  | false, lo, hi => sliceB lo hi xs.len fun a b => K (.d (.sl false es (xs.sub a b)))
  | true, some (.d (.int _ a)), none => (0 ≤ a ∧ a < xs.len) ∧ K (.win r es a.toNat)
  | _, _, _ => False
def stepSlx (o : List Ob) (es : Nat) (x : SV) (lo hi : Option SV) (K : SV → Prop) : Prop :=
  match x with
  | .d (.sl false es' xs) => es' = es ∧ sliceB lo hi xs.len fun a b => K (.d (.sl false es (xs.sub a b)))
  | .nil => sliceB lo hi 0 fun _ _ => K .nil
  | .own r => ∃ ow xs, o[r]? = some (.val (.sl ow es xs)) ∧ stepSlo r es ow xs lo hi K
  | _ => False

/-- a slice of no room. -/
def stepSl0 (o : List Ob) (es : Nat) (x : SV) (K : SV → Prop) : Prop :=
  match x with
  | .d (.sl _ _ _) => K (.d (.sl true es .nil))
  | .nil => K .nil
  | .own r => (∃ es' xs ow, o[r]? = some (.val (.sl ow es' xs))) ∧ K (.d (.sl true es .nil))
  | _ => False

def stepShr (x y : SV) (K : SV → Prop) : Prop :=
  match x, y with
  | .d (.int k a), .d (.int _ n) => 0 ≤ n ∧ K (.d (.int k (a.fdiv (2 ^ (min n.toNat k.bits)))))
  | _, _ => False

/-- bytes as data. -/
def bytesD : List UInt8 → D
  | [] => .nil
  | b :: bs => .cons (.int .u8 (b.toNat : Int)) (bytesD bs)

def stepB2s (o : List Ob) (x : SV) (K : SV → Prop) : Prop :=
  match x with
  | .d (.sl _ 1 xs) => ∃ bs, xs = bytesD bs ∧ K (.d (.str bs))
  | .nil => K (.d (.str []))
  | .own r => ∃ bs ow, o[r]? = some (.val (.sl ow 1 (bytesD bs))) ∧ K (.d (.str bs))
  | _ => False

/-- one cell. -/
def D.isOne : D → Bool
  | .st _ => false
  | .nil => false
  | .cons _ _ => false
  | _ => true
/-- what a function value has captured. -/
def capsD : List SV → Option D
  | [] => some .nil
  | .d x :: ss => if x.isOne then (capsD ss).map (.cons x) else none
  | _ :: _ => none

def D.caps : D → Bool
  | .nil => true
  | .cons x xs => x.isOne && xs.caps
  | _ => false
def D.list : D → List D
  | .cons x xs => x :: xs.list
  | _ => []

def stepIar (m es : Nat) (x i : SV) (K : SV → Prop) : Prop :=
  match x, i with
  | .d (.ptr (.st xs)), .d (.int _ n) => (0 ≤ n ∧ n < (m : Int)) ∧ xs.pre n.toNat = n.toNat * es ∧ ∃ y, xs.nth n.toNat = some y ∧ K (.d (.ptr y))
  | .ptr r off p, .d (.int _ n) => (0 ≤ n ∧ n < (m : Int)) ∧ K (.ptr r (off + n.toNat * es) (p ++ [n.toNat]))
  | _, _ => False

def eqK : List Nat → D → D → Option Bool
  | [], .nil, .nil => some true
  | 0 :: ks, .cons (.int k a) xs, .cons (.int k' b) ys => if k = k' then (eqK ks xs ys).map fun r => decide (a = b) && r else none
  | 1 :: ks, .cons (.bool a) xs, .cons (.bool b) ys => (eqK ks xs ys).map fun r => (a == b) && r
  | 2 :: ks, .cons (.str a) xs, .cons (.str b) ys => (eqK ks xs ys).map fun r => decide (a = b) && r
  | _, _, _ => none
def stepSq (neg : Bool) (ks : List Nat) (x y : SV) (K : SV → Prop) : Prop :=
  match x, y with
  | .d (.st a), .d (.st b) => ∃ r, eqK ks a b = some r ∧ K (.d (.bool (if neg then !r else r)))
  | _, _ => False

def stepMx (big : Bool) (x y : SV) (K : SV → Prop) : Prop :=
  match x, y with
  | .d (.int k a), .d (.int _ b) => K (.d (.int k (if big then max a b else min a b)))
  | _, _ => False

def enterOK (P : Program) (f : FuncId) : Bool :=
  match P.funcs[f]? with
  | some fn => !(fn.name == "runtime.NumGoroutine") && fn.body.isSome
  | none => false

def stepP (P : PG) (o : List Ob) (E : Nat → SV) (mo : MO) (K : SV → Prop) : Prop :=
  match mo with
  | .mov x => K (evF E x)
  | .pick c a b => match evF E c with
    | .d (.bool t) => (t = true → K (evF E a)) ∧ (t = false → K (evF E b))
    | _ => False
  | .bin op x y => stepBin op (evF E x) (evF E y) K
  | .bb op x y => stepBB op (evF E x) (evF E y) K
  | .ie op x y => stepIe op (evF E x) (evF E y) K
  | .un op x => stepUn op (evF E x) K
  | .nck x => match evF E x with
    | .d (.ptr y) => K (.d (.ptr y))
    | .ptr r off p => K (.ptr r off p)
    | .el r es i off p => K (.el r es i off p)
    | .d (.clo g xs) => K (.d (.clo g xs))
    | _ => False
  | .ld agg x => stepLd o agg (evF E x) K
  | .fa f off x => stepFa f off (evF E x) K
  | .ia es x i => stepIa o es (evF E x) (evF E i) K
  | .ix x i => stepIx (evF E x) (evF E i) K
  | .len str x => stepLen o str (evF E x) K
  | .ext x i => stepExt (evF E x) i K
  | .conv k x => stepConv k (evF E x) K
  | .sls x lo hi => stepSls (evF E x) (evOO E lo) (evOO E hi) K
  | .mx big x y => stepMx big (evF E x) (evF E y) K
  | .sq neg ks x y => stepSq neg ks (evF E x) (evF E y) K
  | .ldv n x => stepLdv o n (evF E x) K
  | .iar m es x i => stepIar m es (evF E x) (evF E i) K
  | .slx es x lo hi => stepSlx o es (evF E x) (evOO E lo) (evOO E hi) K
  | .sl0 es x => stepSl0 o es (evF E x) K
  | .shr x y => stepShr (evF E x) (evF E y) K
  | .b2s x => stepB2s o (evF E x) K
  | .clos g caps => match capsD (caps.map (evF E)) with
    | some xs => K (.d (.clo g xs))
    | none => False
  | .callV f args => match evF E f with
    | .d (.clo g xs) => (enterOK P.P g = true ∧ xs.caps = true) ∧ ∃ ds rs, argsOf o (args.map (evF E)) ds ∧ Fn P g (ds ++ xs.list) (fun qs => qs = rs) ∧ ((args.map (evF E)).all isD = true ∨ rs.all D.allOwn = true) ∧ K (resSV (rs.map D.unown))
    | _ => False
  | .callP f args => ∃ ds rs, argsOf o (args.map (evF E)) ds ∧ Fn P f ds (fun qs => qs = rs) ∧ ((args.map (evF E)).all isD = true ∨ rs.all D.allOwn = true) ∧ K (resSV (rs.map D.unown))
  | _ => False
end Go.Pe

/- The code, made compact by a function that the kernel runs; and the walk of an operation that writes nothing is sound. -/
namespace Go.Pe
open Go Go.RowKit

def cst : Value → Option SV
  | .int k n => some (.d (.int k n))
  | .bool b => some (.d (.bool b))
  | .string s => some (.d (.str s.data.toList))
  | .slice none 0 0 => some .nil
  | .nilIface => some (.d (.err true))
  | _ => none

def opd : Operand → Option Opd
  | .tmp t => some (.t t)
  | .const v => (cst v).map .k
  | .func f => some (.k (.d (.clo f .nil)))
  | .global _ => none

def opdO : Option Operand → Option (Option Opd)
  | none => some none
  | some x => (opd x).map some

def sizeOfT (P : Program) (t : TypeId) : Option Nat := (P.info? t).map (·.size)

/-- a struct with a part that has a slice within a slice. -/
def deepT (P : Program) (t : TypeId) : Bool :=
  let sl := fun u : TypeId => match P.underlying u with
    | some (.slice e) => match P.underlying e with
      | some (.struct gs) => gs.any fun g => match P.underlying g.type with
        | some (.slice _) => true
        | _ => false
      | _ => false
    | _ => false
  match P.underlying t with
  | some (.struct fs) => fs.any fun f => sl f.type || (match P.underlying f.type with
    | some (.struct gs) => gs.any fun g => sl g.type
    | _ => false)
  | _ => false
def compLd (P : Program) (t : TypeId) (x : Operand) : Option MO :=
  match P.underlying t, sizeOfT P t, opd x with
  | some (.struct _), some n, some x => if deepT P t then some (.ldv n x) else some (.ld (some n) x)
  | some (.array _ _), _, _ => none
  | some _, some 1, some x => some (.ld none x)
  | _, _, _ => none

def compFa (P : Program) (s : TypeId) (x : Operand) (f : Nat) : Option MO :=
  match P.underlying s, opd x with
  | some (.struct fs), some x => match fs[f]? with
    | some fd => match sizeOfT P fd.type with
      | some (_ + 1) => some (.fa f fd.offset x)
      | _ => none
    | none => none
  | _, _ => none

def flatK (P : Program) : List Field → Nat → Option (List Nat)
  | [], _ => some []
  | f :: fs, n => if f.offset = n ∧ f.name ≠ "_" then match P.underlying f.type with
    | some (.int _) => (flatK P fs (n + 1)).map (0 :: ·)
    | some .bool => (flatK P fs (n + 1)).map (1 :: ·)
    | some .string => (flatK P fs (n + 1)).map (2 :: ·)
    | _ => none
    else none
def compSq (P : Program) (op : BinOp) (t : TypeId) (fs : Array Field) (x y : Opd) : Option MO :=
  if P.stoodInHeld t = false ∧ P.eqGuardType P.depth t = false then match op, flatK P fs.toList 0 with
    | .eql, some ks => some (.sq false ks x y)
    | .neq, some ks => some (.sq true ks x y)
    | _, _ => none
  else none
theorem compSq_ok {P : Program} {op : BinOp} {t : TypeId} {fs : Array Field} {x y : Opd} {mo : MO} (hc : compSq P op t fs x y = some mo) : ∃ neg ks, mo = .sq neg ks x y := by
  unfold compSq at hc
  split at hc
  · split at hc <;> first | (injection hc with hc; exact ⟨_, _, hc.symm⟩) | cases hc
  · cases hc
def compBin (P : Program) (op : BinOp) (t : TypeId) (x y : Operand) : Option MO :=
  match P.underlying t, opd x, opd y with
  | some (.int _), some x, some y => some (.bin op x y)
  | some .string, some x, some y => some (.bin op x y)
  | some .bool, some x, some y => some (.bb op x y)
  | some (.interface ms), some x, some y' => match y with
    | .const .nilIface => if P.methodsAt t = ms then some (.ie op x y') else none
    | _ => none
  | some (.struct fs), some x, some y => compSq P op t fs x y
  | _, _, _ => none

def compIa (P : Program) (t : TypeId) (x i : Operand) : Option MO :=
  match P.underlying t, opd x, opd i with
  | some (.slice e), some x, some i => (sizeOfT P e).map fun n => .ia n x i
  | some (.array m e), some x, some i => (sizeOfT P e).map fun n => .iar m n x i
  | _, _, _ => none

def compIx (P : Program) (t : TypeId) (x i : Operand) : Option MO :=
  match P.underlying t, opd x, opd i with
  | some .string, some x, some i => some (.ix x i)
  | _, _, _ => none

def compConv (P : Program) (s d : TypeId) (x : Operand) : Option MO :=
  match P.underlying s, P.underlying d, opd x with
  | some (.slice e), some .string, some x => match P.underlying e with
    | some (.int .u8) => some (.b2s x)
    | _ => none
  | some (.int _), some (.int k), some x => some (.conv k x)
  | _, _, _ => none

def compLen (P : Program) (ts : Array TypeId) (xs : Array Operand) : Option MO :=
  match ts, xs with
  | ⟨[t]⟩, ⟨[x]⟩ => match P.underlying t, opd x with
    | some .string, some x => some (.len true x)
    | some (.slice _), some x => some (.len false x)
    | _, _ => none
  | _, _ => none

def compMx (big : Bool) (xs : Array Operand) : Option MO :=
  match xs with
  | ⟨[x, y]⟩ => match opd x, opd y with
    | some x, some y => some (.mx big x y)
    | _, _ => none
  | _ => none

def zero? : Option Operand → Bool
  | none => true
  | some (.const (.int _ 0)) => true
  | _ => false
def compShr (P : Program) (t : TypeId) (x y : Operand) : Option MO :=
  match P.underlying t, opd x, opd y with
  | some (.int _), some x, some y => some (.shr x y)
  | _, _, _ => none
def compSl0 (P : Program) (t : TypeId) (x : Operand) (lo hi mx : Option Operand) : Option MO :=
  match P.underlying t, opd x with
  | some (.slice e), some x => match hi, mx with
    | some (.const (.int _ 0)), some (.const (.int _ 0)) => if zero? lo then (sizeOfT P e).map fun n => .sl0 n x else none
    | _, _ => none
  | _, _ => none

def compSl (P : Program) (t : TypeId) (x : Operand) (lo hi : Option Operand) : Option MO :=
  match P.underlying t, opd x, opdO lo, opdO hi with
  | some .string, some x, some lo, some hi => some (.sls x lo hi)
  | some (.slice e), some x, some lo, some hi => (sizeOfT P e).map fun n => .slx n x lo hi
  | _, _, _, _ => none

def opdL : List Operand → Option (List Opd)
  | [] => some []
  | x :: xs => match opd x, opdL xs with
    | some x, some xs => some (x :: xs)
    | _, _ => none

def compCall (P : Program) (draw : Bool) (f : FuncId) (xs : Array Operand) : Option MO :=
  if enterOK P f then match opdL xs.toList with
    | some xs => some (if draw then .callP f xs else .call f xs)
    | none => none
  else none

/-- an operation that writes nothing. -/
def compP (P : Program) (draw : Bool) (op : Op) : Option MO :=
  match op with
  | .move x => (opd x).map .mov
  | .assign x => (opd x).map .mov
  | .pick c a b => match opd c, opd a, opd b with
    | some c, some a, some b => some (.pick c a b)
    | _, _, _ => none
  | .binOp .shr t x y _ => compShr P t x y
  | .binOp op t x y _ => compBin P op t x y
  | .unOp op _ x => (opd x).map (.un op)
  | .nilCheck x => (opd x).map .nck
  | .load t x => compLd P t x
  | .fieldAddr s x f => compFa P s x f
  | .indexAddr t x i => compIa P t x i
  | .index t x i => compIx P t x i
  | .extract x i => (opd x).map fun x => .ext x i
  | .convert s d x => compConv P s d x
  | .slice t x lo hi none => compSl P t x lo hi
  | .slice t x lo hi (some m) => compSl0 P t x lo hi (some m)
  | .makeFunc (.func g) ⟨[]⟩ caps => (opdL caps.toList).map (.clos g)
  | .call { callee := .value (.tmp t), args := xs, argTypes := _ } => (opdL xs.toList).map fun ps => if draw then .callV (.t t) ps else .callW (.t t) ps
  | .call { callee := .builtin .len, args := xs, argTypes := ts } => compLen P ts xs
  | .call { callee := .builtin .max, args := xs, argTypes := _ } => compMx true xs
  | .call { callee := .builtin .min, args := xs, argTypes := _ } => compMx false xs
  | .call { callee := .value (.func f), args := xs, argTypes := _ } => compCall P draw f xs
  | _ => none

section
variable {w : World} {M : Nat → Prop} {C : List OC} {v : Value}
theorem relV_int {k : IntKind} {n : Int} : RelV w M C (.d (.int k n)) v ↔ v = .int k n :=
  ⟨fun ⟨_, h1, h2⟩ => by rw [h2, h1.1]; rfl, fun h => ⟨_, ⟨rfl, rfl⟩, h⟩⟩
theorem relV_bool {b : Bool} : RelV w M C (.d (.bool b)) v ↔ v = .bool b :=
  ⟨fun ⟨_, h1, h2⟩ => by rw [h2, h1.1]; rfl, fun h => ⟨_, ⟨rfl, rfl⟩, h⟩⟩
theorem relV_str {s : List UInt8} : RelV w M C (.d (.str s)) v ↔ v = .string ⟨s.toArray⟩ :=
  ⟨fun ⟨_, h1, h2⟩ => by rw [h2, h1.1]; rfl, fun h => ⟨_, ⟨rfl, rfl⟩, h⟩⟩
theorem relV_err {b : Bool} : RelV w M C (.d (.err b)) v ↔ (if b then v = .nilIface else ∃ t u, v = .iface t u) := by
  constructor
  · rintro ⟨cs, ⟨_, h1⟩, h2⟩
    cases b
    · obtain ⟨t, u, h1⟩ := h1; exact ⟨t, u, by rw [h2, h1]; rfl⟩
    · simp only [if_true] at h1 ⊢; rw [h2, h1]; rfl
  · intro h
    cases b
    · obtain ⟨t, u, h1⟩ := h; exact ⟨[.iface t u], ⟨rfl, t, u, rfl⟩, h1⟩
    · simp only [if_true] at h; exact ⟨[.nilIface], ⟨rfl, by simp⟩, h⟩
theorem relV_sl {o : Bool} {es : Nat} {xs : D} (h : RelV w M C (.d (.sl o es xs)) v) : ∃ a c, v = .slice a xs.len c ∧ (D.sl o es xs).rep w M [.slice a xs.len c] [] := by
  obtain ⟨cs, h1, h2⟩ := h
  have h3 := h1
  obtain ⟨_, a, c, ds, fps, e, _⟩ := h1
  subst e
  exact ⟨a, c, h2, h3⟩
theorem relV_ptr {x : D} (h : RelV w M C (.d (.ptr x)) v) : ∃ ad ds, v = .pointer (some ad) ∧ x.rep w M ds [] ∧ Holds w M ad ds := by
  obtain ⟨cs, ⟨_, ad, ds, h1, h2, h3⟩, h4⟩ := h
  exact ⟨ad, ds, by rw [h4, h1]; rfl, h2, h3⟩
theorem relV_mk_ptr {x : D} {ad : Addr} {ds : List Value} (h2 : x.rep w M ds []) (h3 : Holds w M ad ds) : RelV w M C (.d (.ptr x)) (.pointer (some ad)) :=
  ⟨_, ⟨rfl, ad, ds, rfl, h2, h3⟩, rfl⟩
end

def OpRel (c : Ctx) (C : List OC) (o : Oper) (E : Nat → SV) (a : Act) (w : World) : Prop :=
  ∀ t, Operand.tmp t ∈ o.op.operands → RelV w (Ms c C) C (E t) (a.tmps.getD t Go.undef)

/-- operation o, in a frame of which E tells, yields what s tells. -/
def Yields (c : Ctx) (ob : List Ob) (C : List OC) (o : Oper) (E : Nat → SV) (s : SV) : Prop :=
  ∀ a w, RelW c ob C w → OpRel c C o E a w →
    o.wp c.P a w (fun a' w' => ∃ v, a' = a.put o.dst v ∧ RelV w' (Ms c C) C s v ∧ Ext w w') (fun _ _ _ => False)

section
variable {c : Ctx} {ob : List Ob} {C : List OC} {o : Oper} {E : Nat → SV} {s : SV}

theorem Yields.of_run (h : ∀ a w, RelW c ob C w → OpRel c C o E a w → ∃ v, (execOp a.eval o).run c.P w = .ok (.value v) w ∧ RelV w (Ms c C) C s v) : Yields c ob C o E s := by
  intro a w hw ho
  obtain ⟨v, hr, hv⟩ := h a w hw ho
  unfold Oper.wp
  rw [hr]
  exact ⟨v, rfl, hv, Ext.refl w⟩

theorem cst_rel {w : World} {M : Nat → Prop} {v : Value} {s : SV} (h : cst v = some s) : RelV w M C s v := by
  unfold cst at h
  split at h <;> (try injection h with h) <;> (try subst h)
  · exact relV_int.2 rfl
  · exact relV_bool.2 rfl
  · rename_i s; exact relV_str.2 (by cases s; simp)
  · rfl
  · exact relV_err.2 (by simp)
  · cases h

theorem opd_rel {w : World} {a : Act} {x : Operand} {p : Opd} (hx : opd x = some p) (ho : ∀ t, x = .tmp t → RelV w (Ms c C) C (E t) (a.tmps.getD t Go.undef)) : RelV w (Ms c C) C (evF E p) (a.eval x) := by
  cases x with
  | tmp t => injection hx with hx; subst hx; exact ho t rfl
  | const v =>
    simp only [opd, Option.map_eq_some_iff] at hx
    obtain ⟨s, hs, rfl⟩ := hx
    exact cst_rel hs
  | func f => injection hx with hx; subst hx; exact ⟨[.func (.func f) #[] #[]], ⟨rfl, [], rfl, rfl, rfl⟩, rfl⟩
  | global g => cases hx
end
end Go.Pe

/- The walk of an operation that writes nothing is sound. -/
namespace Go.Pe
open Go Go.RowKit

theorem InR.wrap {k : IntKind} {n : Int} (h : InR k n) : k.wrap n = n := by
  cases k
  case i64 => exact IntWalk.i64_in n h
  case u8 => exact IntWalk.u8_in n h
  all_goals exact h

section
variable {c : Ctx} {ob : List Ob} {C : List OC} {E : Nat → SV} {K : SV → Prop}

theorem stepInt_sound {op : BinOp} {k : IntKind} {a b : Int} (h : stepInt op k a b K) : ∃ s, K s ∧ ∀ (w : World) (M : Nat → Prop) (t : TypeId) (x y : Operand),
    ∃ v, (do eqGuard op t x y (.int k a) (.int k b); binOp op t (.int k a) (.int k b)).run c.P w = .ok v w ∧ RelV w M C s v := by
  cases op <;> simp only [stepInt] at h
  case add => rcases h with ⟨hi, h⟩ | h
              · exact ⟨_, h, fun w M t x y => ⟨.int k (k.wrap (a + b)), by simp [eqGuard, binOp, Op.intArith], relV_int.2 (by rw [hi.wrap])⟩⟩
              · exact ⟨_, h, fun w M t x y => ⟨.int k (k.wrap (a + b)), by simp [eqGuard, binOp, Op.intArith], relV_int.2 rfl⟩⟩
  case sub => rcases h with ⟨hi, h⟩ | h
              · exact ⟨_, h, fun w M t x y => ⟨.int k (k.wrap (a - b)), by simp [eqGuard, binOp, Op.intArith], relV_int.2 (by rw [hi.wrap])⟩⟩
              · exact ⟨_, h, fun w M t x y => ⟨.int k (k.wrap (a - b)), by simp [eqGuard, binOp, Op.intArith], relV_int.2 rfl⟩⟩
  case mul => rcases h with ⟨hi, h⟩ | h
              · exact ⟨_, h, fun w M t x y => ⟨.int k (k.wrap (a * b)), by simp [eqGuard, binOp, Op.intArith], relV_int.2 (by rw [hi.wrap])⟩⟩
              · exact ⟨_, h, fun w M t x y => ⟨.int k (k.wrap (a * b)), by simp [eqGuard, binOp, Op.intArith], relV_int.2 rfl⟩⟩
  case quo =>
    obtain ⟨hb, h⟩ := h
    rcases h with ⟨hi, h⟩ | h
    · exact ⟨_, h, fun w M t x y => ⟨.int k (k.wrap (a.tdiv b)), by simp [eqGuard, binOp, Op.intDiv, hb], relV_int.2 (by rw [hi.wrap])⟩⟩
    · exact ⟨_, h, fun w M t x y => ⟨.int k (k.wrap (a.tdiv b)), by simp [eqGuard, binOp, Op.intDiv, hb], relV_int.2 rfl⟩⟩
  case rem =>
    obtain ⟨hb, h⟩ := h
    exact ⟨_, h, fun w M t x y => ⟨.int k (a.tmod b), by simp [eqGuard, binOp, Op.intDiv, hb], relV_int.2 rfl⟩⟩
  case and => exact ⟨_, h, fun w M t x y => ⟨.int k (bits .and k a b), by simp [eqGuard, binOp, Op.intBits, bits], relV_int.2 rfl⟩⟩
  case or => exact ⟨_, h, fun w M t x y => ⟨.int k (bits .or k a b), by simp [eqGuard, binOp, Op.intBits, bits], relV_int.2 rfl⟩⟩
  case xor => exact ⟨_, h, fun w M t x y => ⟨.int k (bits .xor k a b), by simp [eqGuard, binOp, Op.intBits, bits], relV_int.2 rfl⟩⟩
  case eql => exact ⟨_, h, fun w M t x y => ⟨.bool (a == b), by simp [eqGuard, binOp, Op.intCmp], relV_bool.2 (by rw [Bool.beq_eq_decide_eq])⟩⟩
  case neq => exact ⟨_, h, fun w M t x y => ⟨.bool (a != b), by simp [eqGuard, binOp, Op.intCmp], relV_bool.2 (by rw [bne, Bool.beq_eq_decide_eq])⟩⟩
  case lss => exact ⟨_, h, fun w M t x y => ⟨.bool (decide (a < b)), by simp [eqGuard, binOp, Op.intCmp], relV_bool.2 rfl⟩⟩
  case leq => exact ⟨_, h, fun w M t x y => ⟨.bool (decide (a ≤ b)), by simp [eqGuard, binOp, Op.intCmp], relV_bool.2 rfl⟩⟩
  case gtr => exact ⟨_, h, fun w M t x y => ⟨.bool (decide (b < a)), by simp [eqGuard, binOp, Op.intCmp], relV_bool.2 rfl⟩⟩
  case geq => exact ⟨_, h, fun w M t x y => ⟨.bool (decide (b ≤ a)), by simp [eqGuard, binOp, Op.intCmp], relV_bool.2 rfl⟩⟩

theorem ba_append (a b : List UInt8) : (⟨a.toArray⟩ : ByteArray) ++ ⟨b.toArray⟩ = ⟨(a ++ b).toArray⟩ := by
  have h := Joins.data_append ⟨a.toArray⟩ ⟨b.toArray⟩
  simp only [] at h
  rw [← Lib.mk_data (⟨a.toArray⟩ ++ ⟨b.toArray⟩), h]
theorem ba_size (a : List UInt8) : (⟨a.toArray⟩ : ByteArray).size = a.length := by
  show a.toArray.size = _
  simp

theorem stepStr_sound {op : BinOp} {a b : List UInt8} (h : stepStr op a b K) : ∃ s, K s ∧ ∀ (w : World) (M : Nat → Prop) (t : TypeId) (x y : Operand),
    ∃ v, (do eqGuard op t x y (.string ⟨a.toArray⟩) (.string ⟨b.toArray⟩); binOp op t (.string ⟨a.toArray⟩) (.string ⟨b.toArray⟩)).run c.P w = .ok v w ∧ RelV w M C s v := by
  cases op <;> simp only [stepStr] at h
  case add =>
    obtain ⟨hb, h⟩ := h
    refine ⟨_, h, fun w M t x y => ⟨.string ⟨(a ++ b).toArray⟩, ?_, relV_str.2 rfl⟩⟩
    have hn : ¬ ((((⟨a.toArray⟩ : ByteArray).size + (⟨b.toArray⟩ : ByteArray).size : Nat) : Int) > IntKind.i64.max) := by
      have : IntKind.i64.max = 9223372036854775807 := by decide
      rw [this, ba_size, ba_size]
      omega
    simp only [eqGuard, binOp, Op.stringOp, hn, if_false, ba_append]
    simp
  case eql => exact ⟨_, h, fun w M t x y => ⟨.bool (a == b), by simp [eqGuard, binOp, Op.stringOp], relV_bool.2 (by rw [Bool.beq_eq_decide_eq])⟩⟩
  case neq => exact ⟨_, h, fun w M t x y => ⟨.bool (!(a == b)), by simp [eqGuard, binOp, Op.stringOp], relV_bool.2 (by rw [Bool.beq_eq_decide_eq])⟩⟩
  case lss => exact ⟨_, h, fun w M t x y => ⟨.bool (Op.bytesLess a b), by simp [eqGuard, binOp, Op.stringOp], relV_bool.2 rfl⟩⟩

theorem stepBool_sound {op : BinOp} {a b : Bool} {t : TypeId} (ht : c.P.underlying t = some .bool) (h : stepBool op a b K) : ∃ s, K s ∧ ∀ (w : World) (M : Nat → Prop) (x y : Operand),
    ∃ v, (do eqGuard op t x y (.bool a) (.bool b); binOp op t (.bool a) (.bool b)).run c.P w = .ok v w ∧ RelV w M C s v := by
  cases op <;> simp only [stepBool] at h
  case eql => exact ⟨_, h, fun w M x y => ⟨.bool (a == b), by simp [eqGuard, run_eql_bool _ t a b ht], relV_bool.2 rfl⟩⟩
  case neq => exact ⟨_, h, fun w M x y => ⟨.bool (!(a == b)), by simp [eqGuard, binOp, run_equal_bool _ t a b ht], relV_bool.2 rfl⟩⟩

theorem stepIe_sound {op : BinOp} {s1 s2 : SV} {t : TypeId} (ht : c.P.underlying t = some (.interface (c.P.methodsAt t))) (h : stepIe op s1 s2 K) : ∃ s, K s ∧ ∀ (w : World) (M : Nat → Prop) (x y : Operand) (u1 u2 : Value),
    y = .const .nilIface → RelV w M C s1 u1 → RelV w M C s2 u2 → ∃ v, (do eqGuard op t x y u1 u2; binOp op t u1 u2).run c.P w = .ok v w ∧ RelV w M C s v := by
  unfold stepIe at h
  split at h
  · rename_i a
    refine ⟨_, h, fun w M x y u1 u2 hy h1 h2 => ⟨.bool a, ?_, relV_bool.2 rfl⟩⟩
    have h2 := relV_err.1 h2
    simp only [if_true] at h2
    subst h2 hy
    have h1 := relV_err.1 h1
    cases a
    · obtain ⟨t', u', rfl⟩ := h1; simp [eqGuard, run_eql_held_nil _ t t' u' ht]
    · simp only [if_true] at h1; subst h1; simp [eqGuard, run_eql_nil_nil _ t ht]
  · rename_i a
    refine ⟨_, h, fun w M x y u1 u2 hy h1 h2 => ⟨.bool (!a), ?_, relV_bool.2 rfl⟩⟩
    have h2 := relV_err.1 h2
    simp only [if_true] at h2
    subst h2 hy
    have h1 := relV_err.1 h1
    cases a
    · obtain ⟨t', u', rfl⟩ := h1; simp [eqGuard, run_neq_held_nil _ t t' u' ht]
    · simp only [if_true] at h1; subst h1; simp [eqGuard, run_neq_nil_nil _ t ht]
  · exact h.elim

theorem eqK_nil {a b : D} {r : Bool} (h : eqK [] a b = some r) : r = true := by
  cases a <;> cases b <;> simp [eqK] at h
  exact h
theorem eqK_0 {ks : List Nat} {a b : D} {r : Bool} (h : eqK (0 :: ks) a b = some r) : ∃ k x xs y ys r', a = .cons (.int k x) xs ∧ b = .cons (.int k y) ys ∧ eqK ks xs ys = some r' ∧ r = (decide (x = y) && r') := by
  cases a with
  | cons x xs =>
    cases x with
    | int k n =>
      cases b with
      | cons y ys =>
        cases y with
        | int k' m =>
          simp only [eqK] at h
          split at h
          case isFalse => cases h
          rename_i hk
          subst hk
          obtain ⟨r', hr', e⟩ := Option.map_eq_some_iff.1 h
          exact ⟨k, n, xs, m, ys, r', rfl, rfl, hr', e.symm⟩
        | _ => simp [eqK] at h
      | _ => simp [eqK] at h
    | _ => simp [eqK] at h
  | _ => simp [eqK] at h
theorem eqK_1 {ks : List Nat} {a b : D} {r : Bool} (h : eqK (1 :: ks) a b = some r) : ∃ x xs y ys r', a = .cons (.bool x) xs ∧ b = .cons (.bool y) ys ∧ eqK ks xs ys = some r' ∧ r = ((x == y) && r') := by
  cases a with
  | cons x xs =>
    cases x with
    | bool n =>
      cases b with
      | cons y ys =>
        cases y with
        | bool m =>
          simp only [eqK] at h
          obtain ⟨r', hr', e⟩ := Option.map_eq_some_iff.1 h
          exact ⟨n, xs, m, ys, r', rfl, rfl, hr', e.symm⟩
        | _ => simp [eqK] at h
      | _ => simp [eqK] at h
    | _ => simp [eqK] at h
  | _ => simp [eqK] at h
theorem eqK_2 {ks : List Nat} {a b : D} {r : Bool} (h : eqK (2 :: ks) a b = some r) : ∃ x xs y ys r', a = .cons (.str x) xs ∧ b = .cons (.str y) ys ∧ eqK ks xs ys = some r' ∧ r = (decide (x = y) && r') := by
  cases a with
  | cons x xs =>
    cases x with
    | str n =>
      cases b with
      | cons y ys =>
        cases y with
        | str m =>
          simp only [eqK] at h
          obtain ⟨r', hr', e⟩ := Option.map_eq_some_iff.1 h
          exact ⟨n, xs, m, ys, r', rfl, rfl, hr', e.symm⟩
        | _ => simp [eqK] at h
      | _ => simp [eqK] at h
    | _ => simp [eqK] at h
  | _ => simp [eqK] at h
theorem eqK_run {P : Program} {w : World} {M : Nat → Prop} (d : Nat) : ∀ (fs : List Field) (n : Nat) (ks : List Nat) (a b : D) (r : Bool) (pa pb ca cb : List Value) (fa fb : List Nat), flatK P fs n = some ks → eqK ks a b = some r →
    pa.length = n → pb.length = n → a.rep w M ca fa → b.rep w M cb fb → (Op.eqFields (d + 1) (pa ++ ca).toArray (pb ++ cb).toArray fs).run P w = .ok r w
  | [], n, ks, a, b, r, pa, pb, ca, cb, fa, fb, hf, he, _, _, _, _ => by
    injection hf with hf
    subst hf
    obtain rfl := eqK_nil he
    rfl
  | f :: fs, n, ks, a, b, r, pa, pb, ca, cb, fa, fb, hf, he, h1, h2, ha, hb => by
    unfold flatK at hf
    split at hf
    case isFalse => cases hf
    rename_i hn
    have ca0 : ∀ (v : Value) (q : List Value) (p : List Value), p.length = n → (p ++ (v :: q)).toArray[f.offset]? = some v := by
      intro v q p hp
      rw [hn.1, ← hp]; simp
    split at hf
    case h_1 k hu =>
      obtain ⟨ks', hk, rfl⟩ := Option.map_eq_some_iff.1 hf
      · obtain ⟨k1, x, xs, y, ys, r', rfl, rfl, hr', rfl⟩ := eqK_0 he
        obtain ⟨c1, c2, f1, f2, rfl, rfl, hx, hxs⟩ := ha
        obtain ⟨d1, d2, g1, g2, rfl, rfl, hy, hys⟩ := hb
        obtain ⟨rfl, _⟩ := hx
        obtain ⟨rfl, _⟩ := hy
        have ih := eqK_run d fs (n + 1) ks' xs ys r' (pa ++ [.int k1 x]) (pb ++ [.int k1 y]) c2 d2 f2 g2 hk hr' (by simp [h1]) (by simp [h2]) hxs hys
        simp only [List.append_assoc, List.singleton_append] at ih
        have e1 := ca0 (.int k1 x) c2 pa h1
        have e2 := ca0 (.int k1 y) d2 pb h2
        simp only [List.singleton_append]
        simp only [Op.eqFields, hn.2, ne_eq, not_false_eq_true, if_true, part, isAgg, Sem.run_bind, run_underlying hu, Result.andThen_ok, Sem.run_pure, Bool.false_eq_true, if_false, e1, e2, run_equalIn_int w d f.type k1 k x y hu]
        by_cases hxy : x = y
        · subst hxy; simp [ih]
        · have : (x == y) = false := by simpa using hxy
          simp [this, hxy]
    case h_2 hu =>
      obtain ⟨ks', hk, rfl⟩ := Option.map_eq_some_iff.1 hf
      · obtain ⟨x, xs, y, ys, r', rfl, rfl, hr', rfl⟩ := eqK_1 he
        obtain ⟨c1, c2, f1, f2, rfl, rfl, hx, hxs⟩ := ha
        obtain ⟨d1, d2, g1, g2, rfl, rfl, hy, hys⟩ := hb
        obtain ⟨rfl, _⟩ := hx
        obtain ⟨rfl, _⟩ := hy
        have ih := eqK_run d fs (n + 1) ks' xs ys r' (pa ++ [.bool x]) (pb ++ [.bool y]) c2 d2 f2 g2 hk hr' (by simp [h1]) (by simp [h2]) hxs hys
        simp only [List.append_assoc, List.singleton_append] at ih
        have e1 := ca0 (.bool x) c2 pa h1
        have e2 := ca0 (.bool y) d2 pb h2
        simp only [List.singleton_append]
        simp only [Op.eqFields, hn.2, ne_eq, not_false_eq_true, if_true, part, isAgg, Sem.run_bind, run_underlying hu, Result.andThen_ok, Sem.run_pure, Bool.false_eq_true, if_false, e1, e2, run_equalIn_bool' w d f.type x y hu]
        cases hxy : (x == y)
        · simp
        · simp [ih]
    case h_3 hu =>
      obtain ⟨ks', hk, rfl⟩ := Option.map_eq_some_iff.1 hf
      · obtain ⟨x, xs, y, ys, r', rfl, rfl, hr', rfl⟩ := eqK_2 he
        obtain ⟨c1, c2, f1, f2, rfl, rfl, hx, hxs⟩ := ha
        obtain ⟨d1, d2, g1, g2, rfl, rfl, hy, hys⟩ := hb
        obtain ⟨rfl, _⟩ := hx
        obtain ⟨rfl, _⟩ := hy
        have ih := eqK_run d fs (n + 1) ks' xs ys r' (pa ++ [.string ⟨x.toArray⟩]) (pb ++ [.string ⟨y.toArray⟩]) c2 d2 f2 g2 hk hr' (by simp [h1]) (by simp [h2]) hxs hys
        simp only [List.append_assoc, List.singleton_append] at ih
        have e1 := ca0 (.string ⟨x.toArray⟩) c2 pa h1
        have e2 := ca0 (.string ⟨y.toArray⟩) d2 pb h2
        simp only [List.singleton_append]
        simp only [Op.eqFields, hn.2, ne_eq, not_false_eq_true, if_true, part, isAgg, Sem.run_bind, run_underlying hu, Result.andThen_ok, Sem.run_pure, Bool.false_eq_true, if_false, e1, e2, run_equalIn_string w d f.type _ _ hu, ByteArray.toList_eq]
        by_cases hxy : x = y
        · subst hxy; simp [ih]
        · have : (x == y) = false := by simpa using hxy
          simp [this, hxy]
    case h_4 => cases hf

theorem stepSq_sound {op : BinOp} {t : TypeId} {fs : Array Field} {p q : Opd} {neg : Bool} {ks : List Nat} {x y : SV} (ht : c.P.underlying t = some (.struct fs)) (hc : compSq c.P op t fs p q = some (.sq neg ks p q)) (h : stepSq neg ks x y K) :
    ∃ s, K s ∧ ∀ (w : World) (M : Nat → Prop) (l r : Operand) (u v : Value), RelV w M C x u → RelV w M C y v → ∃ z, (do eqGuard op t l r u v; binOp op t u v : Sem Value).run c.P w = .ok z w ∧ RelV w M C s z := by
  unfold stepSq at h
  split at h
  case h_2 => exact h.elim
  rename_i a b
  obtain ⟨r0, he, h⟩ := h
  refine ⟨_, h, fun w M l r u v hu hv => ?_⟩
  obtain ⟨ca, ha, rfl⟩ := hu
  obtain ⟨cb, hb, rfl⟩ := hv
  unfold compSq at hc
  split at hc
  case isFalse => cases hc
  rename_i hs
  have hfs : c.P.fieldsOf t = fs := by simp [Program.fieldsOf, ht]
  split at hc
  · rename_i ks' hk
    injection hc with hc
    injection hc with hn hk' _ _
    subst hn hk'
    have hr := eqK_run (P := c.P) (w := w) (M := M) 9998 fs.toList 0 ks' a b r0 [] [] ca cb [] [] hk he rfl rfl ha hb
    refine ⟨.bool r0, ?_, relV_bool.2 (by simp)⟩
    simp only [pack, Sem.run_bind, run_eqGuard_agg w .eql t l r _ _ hs.2, Result.andThen_ok, run_eql_struct, run_equalIn_agg w 9999 t _ _ (by rw [hfs]; exact ht) hs.1, hfs]
    simp only [List.nil_append] at hr
    rw [hr]; rfl
  · rename_i ks' hk
    injection hc with hc
    injection hc with hn hk' _ _
    subst hn hk'
    have hr := eqK_run (P := c.P) (w := w) (M := M) 9998 fs.toList 0 ks' a b r0 [] [] ca cb [] [] hk he rfl rfl ha hb
    refine ⟨.bool (!r0), ?_, relV_bool.2 (by simp)⟩
    simp only [pack, Sem.run_bind, run_eqGuard_agg w .neq t l r _ _ hs.2, Result.andThen_ok, run_neq_struct, run_equalIn_agg w 9999 t _ _ (by rw [hfs]; exact ht) hs.1, hfs]
    simp only [List.nil_append] at hr
    rw [hr]; rfl
  · cases hc

theorem stepUn_sound {op : UnOp} {x : SV} (h : stepUn op x K) : ∃ s, K s ∧ ∀ (w : World) (M : Nat → Prop) (u : Value), RelV w M C x u → ∃ v, (Op.unary op u).run c.P w = .ok v w ∧ RelV w M C s v := by
  unfold stepUn at h
  split at h
  · exact ⟨_, h, fun w M u hu => by rw [relV_bool.1 hu]; exact ⟨_, rfl, relV_bool.2 rfl⟩⟩
  · rename_i k n
    rcases h with ⟨hi, h⟩ | h
    · exact ⟨_, h, fun w M u hu => by rw [relV_int.1 hu]; exact ⟨.int k (k.wrap (0 - n)), rfl, relV_int.2 (by rw [Int.zero_sub, hi.wrap])⟩⟩
    · exact ⟨_, h, fun w M u hu => by rw [relV_int.1 hu]; exact ⟨.int k (k.wrap (0 - n)), rfl, relV_int.2 (by rw [Int.zero_sub])⟩⟩
  · exact h.elim

/-- what a shared slice's cells are. -/
theorem sl_get {w : World} {M : Nat → Prop} {o : Bool} {es : Nat} {xs : D} {a : Option Addr} {n cp i : Nat} {y : D} (h : (D.sl o es xs).rep w M [.slice a n cp] []) (hy : xs.nth i = some y) :
    ∃ ad ds, a = some ad ∧ i < n ∧ y.rep w M ds [] ∧ Holds w M (ad.add (i * es)) ds ∧ ds.length = es := by
  obtain ⟨hl, a', c', ds, fps, e1, e2, h3, h4⟩ := h
  injection e1 with e1 _
  injection e1 with ea en ec
  subst ea en ec
  obtain ⟨l, rfl⟩ := ofL_of_isL _ hl
  rw [nth_ofL] at hy
  have hi := lt_of_get hy
  have hu := (isL_ofL l).1 hl
  have hfp : fps = [] ∧ ∃ ad, a = some ad ∧ Holds w M ad ds := by
    cases o
    · simp only [Bool.false_eq_true, if_false] at h4
      rcases h4.2.2 with h5 | h5
      · rw [len_ofL] at h5; omega
      · exact ⟨h4.1, h5⟩
    · simp only [if_true] at h4
      rcases h4 with ⟨hc, hf, _⟩ | ⟨g, _, _, hf⟩
      · rw [len_ofL] at e2; omega
      · cases hf
  obtain ⟨f1, f, f2, hf, _, h6, _⟩ := rep_get hu h3 hy
  rw [hfp.1] at hf
  have hf0 : f = [] := by
    have := congrArg List.length hf
    simp at this
    exact List.eq_nil_of_length_eq_zero (by omega)
  subst hf0
  have hlen : ds.length = l.length * es := by rw [rep_length _ _ _ h3, size_ofL _ hu]
  have hsub : ((ds.drop (i * es)).take es).length = es := by
    rw [rep_length _ _ _ h6]; exact hu y (List.mem_of_getElem? hy)
  rw [len_ofL]
  obtain ⟨ad, h5, h7⟩ := hfp.2
  refine ⟨ad, _, h5, hi, h6, ?_, hsub⟩
  · rcases h7 with h7 | ⟨h7, h8, h9⟩
    · exact .inl (by rw [h7]; simp)
    · have hb : (ad.add (i * es)).block = ad.block := by unfold Addr.add; split <;> rfl
      refine .inr ⟨by rw [hb]; exact h7, by rw [hb]; exact h8, fun j u hu => ?_⟩
      have hadd : (ad.add (i * es)).add j = ad.add (i * es + j) := by
        unfold Addr.add
        by_cases h1 : i * es = 0 <;> by_cases h2 : j = 0 <;> simp [h1, h2, Nat.add_assoc]
      rw [hadd]
      refine h9 _ u ?_
      rw [List.getElem?_take] at hu
      split at hu
      · rwa [List.getElem?_drop] at hu
      · cases hu
end
end Go.Pe

/- Reading out of memory: loads, addresses. -/
namespace Go.Pe
open Go Go.RowKit

section
variable {c : Ctx} {ob : List Ob} {C : List OC} {E : Nat → SV} {K : SV → Prop} {w : World} {M : Nat → Prop}

theorem add_add (a : Addr) (i j : Nat) : (a.add i).add j = a.add (i + j) := by
  unfold Addr.add
  by_cases h1 : i = 0 <;> by_cases h2 : j = 0 <;> simp [h1, h2, Nat.add_assoc]
theorem add_block (a : Addr) (i : Nat) : (a.add i).block = a.block := by unfold Addr.add; split <;> rfl
theorem add_lit (g i j : Nat) : (⟨g, i, none⟩ : Addr).add j = ⟨g, i + j, none⟩ := by unfold Addr.add; split <;> simp_all

theorem Holds.sub {ad : Addr} {ds : List Value} (h : Holds w M ad ds) (i n : Nat) : Holds w M (ad.add i) ((ds.drop i).take n) := by
  rcases h with h | ⟨h1, h2, h3⟩
  · exact .inl (by rw [h]; simp)
  · refine .inr ⟨by rw [add_block]; exact h1, by rw [add_block]; exact h2, fun j u hu => ?_⟩
    rw [add_add]
    rw [List.getElem?_take] at hu
    split at hu
    · rw [List.getElem?_drop] at hu; exact h3 _ u hu
    · cases hu

/-- a field's cells among its struct's. -/
theorem rep_nth : ∀ (xs : D) (cs : List Value) (fp : List Nat) (f : Nat) (y : D), xs.rep w M cs fp → xs.nth f = some y →
    ∃ f0, (∀ b ∈ f0, b ∈ fp) ∧ y.rep w M ((cs.drop (xs.pre f)).take y.size) f0 ∧ xs.pre f + y.size ≤ cs.length := by
  intro xs
  induction xs with
  | cons x xs ih1 ih2 =>
    intro cs fp f y h hy
    obtain ⟨c1, c2, f1, f2, e1, e2, h1, h2⟩ := h
    have l1 := rep_length _ _ _ h1
    subst e1 e2
    cases f with
    | zero =>
      injection hy with hy
      subst hy
      refine ⟨f1, fun b hb => by simp [hb], ?_, by simp [D.pre, l1]⟩
      simp only [D.pre, List.drop_zero]
      rw [← l1, List.take_left]; exact h1
    | succ f =>
      obtain ⟨f0, hs, hr, hl⟩ := ih2 c2 f2 f y h2 hy
      refine ⟨f0, fun b hb => by simp [hs b hb], ?_, by simp only [D.pre, List.length_append]; omega⟩
      simp only [D.pre]
      rw [show x.size + xs.pre f = c1.length + xs.pre f by rw [l1], List.drop_length_add_append]; exact hr
  | _ => intro cs fp f y h hy; cases f <;> cases hy

theorem rep_dget : ∀ (p : List Nat) (x : D) (cs : List Value) (fp : List Nat) (y : D), x.rep w M cs fp → dget p x = some y →
    ∃ f0, (∀ b ∈ f0, b ∈ fp) ∧ y.rep w M ((cs.drop (doff p x)).take y.size) f0 ∧ doff p x + y.size ≤ cs.length
  | [], x, cs, fp, y, h, hy => by
    injection hy with hy
    subst hy
    have l := rep_length _ _ _ h
    refine ⟨fp, fun _ h => h, ?_, by simp [doff, l]⟩
    simp only [doff, List.drop_zero]
    rw [← l, List.take_length]; exact h
  | f :: p, x, cs, fp, y, h, hy => by
    cases x with
    | st xs =>
      simp only [dget] at hy
      cases hz : xs.nth f with
      | none => rw [hz] at hy; cases hy
      | some z =>
        rw [hz] at hy
        simp only [] at hy
        obtain ⟨f1, hs1, hr1, hl1⟩ := rep_nth xs cs fp f z h hz
        obtain ⟨f0, hs, hr, hl⟩ := rep_dget p z _ f1 y hr1 hy
        have hz' : ((cs.drop (xs.pre f)).take z.size).length = z.size := by simp; omega
        rw [hz'] at hl
        refine ⟨f0, fun b hb => hs1 b (hs b hb), ?_, by simp only [doff, hz]; omega⟩
        simp only [doff, hz]
        rw [List.drop_take, List.drop_drop, List.take_take, Nat.min_eq_left (by omega)] at hr
        exact hr
    | _ => cases hy

def aggB : TypeDesc → Bool
  | .struct _ => true
  | .array _ _ => true
  | _ => false

theorem run_ld_one {P : Program} {t : TypeId} {d : TypeDesc} {ad : Addr} {u : Value} (ht : P.underlying t = some d) (hd : aggB d = false) (hc : w.cell? ad = some u) :
    (Instr.loadAt t (.pointer (some ad))).run P w = .ok u w := by
  cases d <;> simp_all [Instr.loadAt, Instr.sureAddr, loadVar, isAgg, run_underlying ht, aggB]

theorem run_ld_agg {P : Program} {t : TypeId} {fs : Array Field} {i : TypeInfo} {ad : Addr} {ds : List Value} (ht : P.underlying t = some (.struct fs)) (hi : P.info? t = some i) (hs : ds.length = i.size)
    (hc : ∀ j u, ds[j]? = some u → w.cell? (ad.add j) = some u) : (Instr.loadAt t (.pointer (some ad))).run P w = .ok (.agg ds.toArray) w := by
  have h := run_loadCells_list (P := P) w ad ds hc
  rw [hs] at h
  simp [Instr.loadAt, Instr.sureAddr, loadVar, isAgg, run_underlying ht, sizeOf, typeInfo, hi, h]

/-- what the compact load asks of the program. -/
def LdOK (P : Program) (t : TypeId) : Option Nat → Prop
  | some n => ∃ fs i, P.underlying t = some (.struct fs) ∧ P.info? t = some i ∧ i.size = n
  | none => ∃ d, P.underlying t = some d ∧ aggB d = false

theorem compLd_ok {P : Program} {t : TypeId} {x : Operand} {mo : MO} (h : compLd P t x = some mo) : (∃ agg p, mo = .ld agg p ∧ opd x = some p ∧ LdOK P t agg) ∨ ∃ n p, mo = .ldv n p ∧ opd x = some p ∧ LdOK P t (some n) := by
  unfold compLd at h
  split at h
  · rename_i fs n x' hu hs hx
    simp only [sizeOfT, Option.map_eq_some_iff] at hs
    obtain ⟨i, hi, hn⟩ := hs
    split at h
    · injection h with h
      exact .inr ⟨_, _, h.symm, hx, fs, i, hu, hi, hn⟩
    · injection h with h
      exact .inl ⟨_, _, h.symm, hx, fs, i, hu, hi, hn⟩
  · cases h
  · rename_i d x' hns hna hu hs hx
    injection h with h
    refine .inl ⟨_, _, h.symm, hx, d, hu, ?_⟩
    cases d <;> simp_all [aggB]
  · cases h

theorem stepRd_sound {P : Program} {t : TypeId} {agg : Option Nat} {y : D} (hl : LdOK P t agg) (h : stepRd ob agg y K) : ∃ s, K s ∧ ∀ (w : World) (M : Nat → Prop) (ad : Addr) (ds : List Value), RelW c ob C w →
    (∃ f0, y.rep w M ds f0) → (ds = [] ∨ ∀ j u, ds[j]? = some u → w.cell? (ad.add j) = some u) → ∃ v, (Instr.loadAt t (.pointer (some ad))).run P w = .ok v w ∧ RelV w M C s v := by
  cases agg with
  | none =>
    by_cases hlk : ∃ q v, y = .lnk q v
    · obtain ⟨q, v, rfl⟩ := hlk
      obtain ⟨r, h1, hK⟩ := h
      refine ⟨_, hK, fun w M ad ds hw ⟨f0, hr⟩ hc => ?_⟩
      obtain ⟨rfl, _, _⟩ := hr
      rcases hc with hc | hc
      · cases hc
      · have h0 := hc 0 v rfl
        obtain ⟨d, hu, hd⟩ := hl
        obtain ⟨oc, h2, h3⟩ := hw.tags q r v h1
        exact ⟨v, run_ld_one hu hd (by simpa [Addr.add] using h0), oc, h2, h3.symm⟩
    have hy : y.noOwn = true ∧ K (.d y) ∧ (∀ w M ds f0, y.rep w M ds f0 → ds.length = 1) ∧ (∀ cs, pack y cs = cs.headD Go.undef) := by
      cases y <;> simp only [stepRd] at h <;> first
        | exact h.elim
        | exact ⟨h.1, h.2, fun w M ds f0 hr => rep_length _ _ _ hr, fun _ => rfl⟩
        | exact absurd ⟨_, _, rfl⟩ hlk
    obtain ⟨hn, hK, hlen, hpk⟩ := hy
    refine ⟨_, hK, fun w M ad ds _ ⟨f0, hr⟩ hc => ?_⟩
    have h1 := hlen _ _ _ _ hr
    have hf := rep_noOwn _ _ _ hn hr
    subst hf
    match ds, h1 with
    | [u], _ =>
      rcases hc with hc | hc
      · cases hc
      · have h0 := hc 0 u rfl
        obtain ⟨d, hu, hd⟩ := hl
        refine ⟨u, run_ld_one hu hd (by simpa [Addr.add] using h0), [u], hr, by rw [hpk]; rfl⟩
  | some n =>
    cases y with
    | st xs =>
      obtain ⟨hs, hn, hK⟩ := h
      refine ⟨_, hK, fun w M ad ds _ ⟨f0, hr⟩ hc => ?_⟩
      have hf := rep_noOwn (.st xs) _ _ hn hr
      subst hf
      obtain ⟨fs, i, hu, hi, hsz⟩ := hl
      refine ⟨.agg ds.toArray, run_ld_agg hu hi (by rw [rep_length (.st xs) _ _ hr, hsz]; exact hs) ?_, ds, hr, rfl⟩
      rcases hc with hc | hc
      · intro j u hu; rw [hc] at hu; simp at hu
      · exact hc
    | _ => exact h.elim

theorem stepLd_sound {t : TypeId} {agg : Option Nat} {x : SV} (hl : LdOK c.P t agg) (h : stepLd ob agg x K) : ∃ s, K s ∧ ∀ (w : World) (u : Value), RelW c ob C w → RelV w (Ms c C) C x u →
    ∃ v, (Instr.loadAt t u).run c.P w = .ok v w ∧ RelV w (Ms c C) C s v := by
  unfold stepLd at h
  split at h
  · obtain ⟨s, hK, hs⟩ := stepRd_sound (c := c) (C := C) hl h
    refine ⟨s, hK, fun w u hw hu => ?_⟩
    obtain ⟨ad, ds, rfl, hr, hh⟩ := relV_ptr hu
    exact hs w _ ad ds hw ⟨_, hr⟩ (hh.imp id fun h => h.2.2)
  · rename_i r off p
    obtain ⟨z, hz, ho, y, hy, h⟩ := h
    obtain ⟨s, hK, hs⟩ := stepRd_sound (c := c) (C := C) hl h
    refine ⟨s, hK, fun w u hw hu => ?_⟩
    obtain ⟨oc, hC, rfl⟩ := hu
    obtain ⟨cs, fps, ⟨cur, E, h1, h2, h3⟩, h4, h5⟩ := hw.obs r _ oc hz hC
    obtain ⟨f0, _, hr, hle⟩ := rep_dget p z cs fps y h4 hy
    refine hs w _ _ _ hw ⟨_, hr⟩ (.inr fun j u hu => ?_)
    rw [add_lit, h1.cell (off + j)]
    rw [List.getElem?_take] at hu
    split at hu
    · rw [List.getElem?_drop, ho] at hu
      rw [← Array.getElem?_toList]
      have : cur.toList = cs := by rw [← h3, List.take_of_length_le (by simp [h2])]
      rw [this]; exact hu
    · cases hu
  · rename_i r es i off p
    obtain ⟨xs, z, hz, hi, ho, y, hy, h⟩ := h
    obtain ⟨s, hK, hs⟩ := stepRd_sound (c := c) (C := C) hl h
    refine ⟨s, hK, fun w u hw hu => ?_⟩
    obtain ⟨oc, g, n, cp, hC, hov, rfl⟩ := hu
    obtain ⟨cs, h1, h2⟩ := hw.obs r _ oc hz hC
    rw [hov] at h2
    obtain ⟨hL, a', c', ds, fps, e1, e2, h3, h4⟩ := h1
    rw [e1] at h2
    simp only [pack, List.headD_cons] at h2
    injection h2 with ha hn hc
    subst ha hn hc
    simp only [if_true] at h4
    obtain ⟨l, rfl⟩ := ofL_of_isL _ hL
    rw [nth_ofL] at hi
    obtain ⟨f1, f, f2, _, _, hr, _⟩ := rep_get ((isL_ofL l).1 hL) h3 hi
    obtain ⟨f0, _, hr2, hle⟩ := rep_dget p z _ f y hr hy
    rcases h4 with ⟨h4, _⟩ | ⟨g', h4, ⟨cur, E, h5, h6, h7⟩, _⟩
    · have := lt_of_get hi; rw [len_ofL] at e2; omega
    · injection h4 with h4
      injection h4 with h4
      subst h4
      refine hs w _ _ _ hw ⟨_, hr2⟩ (.inr fun j u hu => ?_)
      rw [add_lit, h5.cell (i * es + off + j)]
      rw [List.getElem?_take] at hu
      split at hu
      · rw [List.getElem?_drop, ho, List.getElem?_take] at hu
        split at hu
        · rw [List.getElem?_drop, ← h7, List.getElem?_take] at hu
          split at hu
          · rw [← Array.getElem?_toList, show i * es + off + j = i * es + (off + j) by omega]; exact hu
          · cases hu
        · cases hu
      · cases hu
  · exact h.elim
theorem stepLdv_sound {t : TypeId} {n : Nat} {x : SV} (hl : LdOK c.P t (some n)) (h : stepLdv ob n x K) : ∃ s, K s ∧ ∀ (w : World) (u : Value), RelW c ob C w → RelV w (Ms c C) C x u →
    ∃ v, (Instr.loadAt t u).run c.P w = .ok v w ∧ RelV w (Ms c C) C s v := by
  unfold stepLdv at h
  split at h
  case h_2 => exact stepLd_sound hl h
  rename_i r off p
  obtain ⟨z, hz, ho, y, hy, h1, h2⟩ := h
  cases hn : y.noOwn with
  | true => exact stepLd_sound hl ⟨z, hz, ho, y, hy, h1 hn⟩
  | false =>
    obtain ⟨hp, hs, ⟨ys, hys⟩, hK⟩ := h2 hn
    subst hp
    injection hy with hy
    subst hy
    refine ⟨_, hK, fun w u hw hu => ?_⟩
    obtain ⟨oc, hC, rfl⟩ := hu
    obtain ⟨cs, fps, hrow, h4, h5⟩ := hw.obs r _ oc hz hC
    obtain ⟨fs, i, hu, hi, hsz⟩ := hl
    have ho0 : off = 0 := by rw [← ho]; rfl
    subst ho0
    have hlen := rep_length _ _ _ h4
    refine ⟨.agg cs.toArray, ?_, oc, cs, hC, by rw [h5]; simp, hrow, rfl⟩
    refine run_ld_agg hu hi (by rw [hlen, hs, hsz]) fun j u hj => ?_
    have := Holds.of_row (M := fun _ => False) hrow (fun h => h)
    rcases this with h | ⟨_, _, h⟩
    · rw [h] at hj; simp at hj
    · exact h j u hj
end
end Go.Pe

/- Lengths, indexes, addresses of parts, calls: and the whole: an operation that writes nothing, walked, is sound. -/
namespace Go.Pe
open Go Go.RowKit

section
variable {c : Ctx} {ob : List Ob} {C : List OC} {E : Nat → SV} {K : SV → Prop} {w : World} {M : Nat → Prop}

theorem own_sl {r es : Nat} {ow : Bool} {xs : D} {oc : OC} (hw : RelW c ob C w) (h1 : ob[r]? = some (.val (.sl ow es xs))) (h2 : C[r]? = some oc) : ∃ a cp, oc.v = .slice a xs.len cp ∧ (D.sl ow es xs).rep w (Ms c C) [.slice a xs.len cp] oc.fp := by
  obtain ⟨cs, h3, h4⟩ := hw.obs r _ oc h1 h2
  have h5 := h3
  obtain ⟨_, a, cp, ds, fps, e, _⟩ := h3
  subst e
  exact ⟨a, cp, h4, h5⟩

theorem stepLen_sound {t ty : TypeId} {str : Bool} {x : SV} (ht : if str then c.P.underlying t = some .string else ∃ e, c.P.underlying t = some (.slice e)) (h : stepLen ob str x K) :
    ∃ s, K s ∧ ∀ (w : World) (u : Value), RelW c ob C w → RelV w (Ms c C) C x u → ∃ v, (Builtin.len_ #[t] ty #[u]).run c.P w = .ok v w ∧ RelV w (Ms c C) C s v := by
  unfold stepLen at h
  split at h
  · rename_i s
    simp only [if_true] at ht
    exact ⟨_, h, fun w u hw hu => ⟨.int .i64 s.length, by rw [relV_str.1 hu]; simp [Builtin.len_, run_underlying ht, goInt, ba_size], relV_int.2 rfl⟩⟩
  · obtain ⟨e, ht⟩ := ht
    refine ⟨_, h, fun w u hw hu => ?_⟩
    obtain ⟨a, cp, rfl, _⟩ := relV_sl hu
    exact ⟨_, by simp [Builtin.len_, run_underlying ht, goInt], relV_int.2 rfl⟩
  · obtain ⟨e, ht⟩ := ht
    refine ⟨_, h, fun w u hw hu => ?_⟩
    have hu : u = .slice none 0 0 := hu
    subst hu
    exact ⟨_, by simp [Builtin.len_, run_underlying ht, goInt], relV_int.2 rfl⟩
  · obtain ⟨e, ht⟩ := ht
    obtain ⟨es, xs, ow, h1, h⟩ := h
    refine ⟨_, h, fun w u hw hu => ?_⟩
    obtain ⟨oc, h2, rfl⟩ := hu
    obtain ⟨a, cp, h3, _⟩ := own_sl hw h1 h2
    rw [h3]
    exact ⟨_, by simp [Builtin.len_, run_underlying ht, goInt], relV_int.2 rfl⟩
  · exact h.elim

theorem stepIx_sound {t : TypeId} {x i : SV} (ht : c.P.underlying t = some .string) (h : stepIx x i K) : ∃ s, K s ∧ ∀ (w : World) (u v : Value), RelV w (Ms c C) C x u → RelV w (Ms c C) C i v →
    ∃ r, (Instr.index t u v).run c.P w = .ok r w ∧ RelV w (Ms c C) C s r := by
  unfold stepIx at h
  split at h
  · rename_i s k n
    obtain ⟨b, h0, hb, h⟩ := h
    refine ⟨_, h, fun w u v hu hv => ?_⟩
    rw [relV_str.1 hu, relV_int.1 hv]
    have hlt := lt_of_get hb
    have hg : (⟨s.toArray⟩ : ByteArray)[n.toNat]? = some b := by
      have hsz : n.toNat < (⟨s.toArray⟩ : ByteArray).size := by rw [ba_size]; exact hlt
      rw [getElem?_pos (⟨s.toArray⟩ : ByteArray) n.toNat hsz]
      congr 1
      have : s[n.toNat] = b := by rw [List.getElem?_eq_getElem hlt] at hb; injection hb
      rw [← this]
      rfl
    exact ⟨.int .u8 (b.toNat : Int), by simp [Instr.index, asIntOf, run_underlying ht, h0, hg], relV_int.2 rfl⟩
  · exact h.elim

theorem stepIa_sound {t e : TypeId} {inf : TypeInfo} {x i : SV} (ht : c.P.underlying t = some (.slice e)) (hi : c.P.info? e = some inf) (h : stepIa ob inf.size x i K) :
    ∃ s, K s ∧ ∀ (w : World) (u v : Value), RelW c ob C w → RelV w (Ms c C) C x u → RelV w (Ms c C) C i v → ∃ r, (Instr.indexAt t u v).run c.P w = .ok r w ∧ RelV w (Ms c C) C s r := by
  unfold stepIa at h
  split at h
  · rename_i o es' xs k n
    obtain ⟨he, y, h0, hy, h⟩ := h
    subst he
    refine ⟨_, h, fun w u v hw hu hv => ?_⟩
    obtain ⟨a, cp, rfl, hr⟩ := relV_sl hu
    obtain ⟨ad, ds, rfl, hlt, h3, h4, _⟩ := sl_get hr hy
    rw [relV_int.1 hv]
    have hlt' : n < (xs.len : Int) := by omega
    exact ⟨.pointer (some (ad.add (n.toNat * inf.size))), by simp [Instr.indexAt, asIntOf, run_underlying ht, h0, hlt', sizeOf, typeInfo, hi], relV_mk_ptr h3 h4⟩
  · rename_i r k n
    obtain ⟨xs, y, h1, h0, hy, h⟩ := h
    refine ⟨_, h, fun w u v hw hu hv => ?_⟩
    obtain ⟨oc, h2, rfl⟩ := hu
    obtain ⟨a, cp, h3, hr⟩ := own_sl hw h1 h2
    have hlt : n.toNat < xs.len := by
      obtain ⟨hL, _⟩ := hr
      obtain ⟨l, rfl⟩ := ofL_of_isL _ hL
      rw [nth_ofL] at hy
      rw [len_ofL]; exact lt_of_get hy
    obtain ⟨hL, a', c', ds, fps, e1, e2, h5, h6⟩ := hr
    injection e1 with e1 _
    injection e1 with ea _ ec
    subst ea ec
    simp only [if_true] at h6
    rcases h6 with ⟨_, h6, _⟩ | ⟨g, h6, _, _⟩
    · omega
    · subst h6
      rw [h3, relV_int.1 hv]
      have hlt' : n < (xs.len : Int) := by omega
      exact ⟨.pointer (some ((⟨g, 0, none⟩ : Addr).add (n.toNat * inf.size))), by simp [Instr.indexAt, asIntOf, run_underlying ht, h0, hlt', sizeOf, typeInfo, hi], oc, g, _, _, h2, h3, by rw [add_lit]; simp⟩
  · exact h.elim

theorem stepIar_sound {t e : TypeId} {m : Nat} {inf : TypeInfo} {x i : SV} (ht : c.P.underlying t = some (.array m e)) (hi : c.P.info? e = some inf) (h : stepIar m inf.size x i K) :
    ∃ s, K s ∧ ∀ (w : World) (u v : Value), RelV w (Ms c C) C x u → RelV w (Ms c C) C i v → ∃ r, (Instr.indexAt t u v).run c.P w = .ok r w ∧ RelV w (Ms c C) C s r := by
  have hrun : ∀ (w : World) (ad : Addr) (k : IntKind) (n : Int), 0 ≤ n ∧ n < (m : Int) → (Instr.indexAt t (.pointer (some ad)) (.int k n)).run c.P w = .ok (.pointer (some (ad.add (n.toNat * inf.size)))) w := by
    intro w ad k n hn
    simp [Instr.indexAt, asIntOf, run_underlying ht, Instr.sureAddr, hn.1, hn.2, sizeOf, typeInfo, hi]
  unfold stepIar at h
  split at h
  · rename_i xs k n
    obtain ⟨hn, hp, y, hy, h⟩ := h
    refine ⟨_, h, fun w u v hu hv => ?_⟩
    obtain ⟨ad, ds, rfl, h1, h2⟩ := relV_ptr hu
    obtain ⟨f0, hs, hr, _⟩ := rep_nth xs ds [] n.toNat y h1 hy
    have : f0 = [] := by
      cases f0 with
      | nil => rfl
      | cons b _ => exact absurd (hs b (by simp)) (by simp)
    subst this
    rw [relV_int.1 hv]
    refine ⟨_, hrun w ad k n hn, ?_⟩
    rw [← hp]
    exact relV_mk_ptr hr (h2.sub _ _)
  · rename_i r off p k n
    obtain ⟨hn, h⟩ := h
    refine ⟨_, h, fun w u v hu hv => ?_⟩
    obtain ⟨oc, h1, rfl⟩ := hu
    rw [relV_int.1 hv]
    exact ⟨_, hrun w _ k n hn, oc, h1, by rw [add_lit]⟩
  · exact h.elim

theorem stepFa_sound {s : TypeId} {fs : Array Field} {fd : Field} {f : Nat} {inf : TypeInfo} {x : SV} (ht : c.P.underlying s = some (.struct fs)) (hf : fs[f]? = some fd) (hi : c.P.info? fd.type = some inf) (hz : inf.size ≠ 0)
    (h : stepFa f fd.offset x K) : ∃ s', K s' ∧ ∀ (w : World) (u : Value), RelV w (Ms c C) C x u → ∃ r, (Instr.fieldAt s u f).run c.P w = .ok r w ∧ RelV w (Ms c C) C s' r := by
  have hrun : ∀ (w : World) (ad : Addr), (Instr.fieldAt s (.pointer (some ad)) f).run c.P w = .ok (.pointer (some (ad.add fd.offset))) w := by
    intro w ad
    simp [Instr.fieldAt, run_underlying ht, hf, Instr.sureAddr, fieldPlace, sizeOf, typeInfo, hi, hz]
  unfold stepFa at h
  split at h
  · rename_i xs
    obtain ⟨hp, y, hy, h⟩ := h
    refine ⟨_, h, fun w u hu => ?_⟩
    obtain ⟨ad, ds, rfl, h1, h2⟩ := relV_ptr hu
    obtain ⟨f0, hs, hr, _⟩ := rep_nth xs ds [] f y h1 hy
    have : f0 = [] := by
      cases f0 with
      | nil => rfl
      | cons b _ => exact absurd (hs b (by simp)) (by simp)
    subst this
    refine ⟨_, hrun w ad, ?_⟩
    rw [← hp]
    exact relV_mk_ptr hr (h2.sub _ _)
  · rename_i r off p
    refine ⟨_, h, fun w u hu => ?_⟩
    obtain ⟨oc, h1, rfl⟩ := hu
    exact ⟨_, hrun w _, oc, h1, by rw [add_lit]⟩
  · rename_i r es i off p
    refine ⟨_, h, fun w u hu => ?_⟩
    obtain ⟨oc, g, n, cp, h1, h2, rfl⟩ := hu
    exact ⟨_, hrun w _, oc, g, n, cp, h1, h2, by rw [add_lit, Nat.add_assoc]⟩
  · exact h.elim

theorem RelV_of0 {s : SV} {v : Value} (h : RelV0 w M C s v) : RelV w M C s v := by
  cases s <;> first | exact h | exact h.elim

theorem stepExt_sound {x : SV} {i : Nat} (h : stepExt x i K) : ∃ s, K s ∧ ∀ (w : World) (M : Nat → Prop) (u : Value), RelV w M C x u → ∃ r, (Instr.extract u i).run c.P w = .ok r w ∧ RelV w M C s r := by
  unfold stepExt at h
  split at h
  · rename_i xs
    obtain ⟨s, hs, h⟩ := h
    refine ⟨s, h, fun w M u hu => ?_⟩
    obtain ⟨vs, rfl, hl, hv⟩ := hu
    have hi : i < vs.length := by rw [hl]; exact lt_of_get hs
    have hu : vs[i]? = some vs[i] := List.getElem?_eq_getElem hi
    exact ⟨vs[i], by simp [Instr.extract, hu], RelV_of0 (hv i s _ hs hu)⟩
  · exact h.elim

theorem stepConv_sound {src dst : TypeId} {k j : IntKind} {x : SV} (h1 : c.P.underlying src = some (.int j)) (h2 : c.P.underlying dst = some (.int k)) (h : stepConv k x K) :
    ∃ s, K s ∧ ∀ (w : World) (M : Nat → Prop) (u : Value), RelV w M C x u → ∃ r, (convert src dst u).run c.P w = .ok r w ∧ RelV w M C s r := by
  unfold stepConv at h
  split at h
  · rename_i k' n
    have hr : ∀ w : World, (convert src dst (.int k' n)).run c.P w = .ok (.int k (k.wrap n)) w := fun w => by simp [convert, run_underlying h1, run_underlying h2, Conv.intToInt]
    rcases h with ⟨hi, h⟩ | h
    · exact ⟨_, h, fun w M u hu => ⟨.int k (k.wrap n), by rw [relV_int.1 hu]; exact hr w, relV_int.2 (by rw [hi.wrap])⟩⟩
    · exact ⟨_, h, fun w M u hu => ⟨.int k (k.wrap n), by rw [relV_int.1 hu]; exact hr w, relV_int.2 rfl⟩⟩
  · exact h.elim

theorem stepMx_sound {big : Bool} {x y : SV} {ts : Array TypeId} {ty : TypeId} (h : stepMx big x y K) : ∃ s, K s ∧ ∀ (w : World) (M : Nat → Prop) (u v : Value), RelV w M C x u → RelV w M C y v →
    ∃ r, ((if big then Builtin.max_ ts ty #[u, v] else Builtin.min_ ts ty #[u, v]) : Sem Value).run c.P w = .ok r w ∧ RelV w M C s r := by
  unfold stepMx at h
  split at h
  · rename_i k a k' b
    refine ⟨_, h, fun w M u v hu hv => ?_⟩
    rw [relV_int.1 hu, relV_int.1 hv]
    cases big
    · refine ⟨.int k (if b < a then b else a), by simp [Builtin.min_, Builtin.min2], relV_int.2 ?_⟩
      congr 1
      simp only [Bool.false_eq_true, if_false]
      split <;> omega
    · refine ⟨.int k (if b > a then b else a), by simp [Builtin.max_, Builtin.max2], relV_int.2 ?_⟩
      congr 1
      simp only [if_true]
      split <;> omega
  · exact h.elim

theorem ba_extract (s : List UInt8) (a b : Nat) : (⟨s.toArray⟩ : ByteArray).extract a b = ⟨((s.drop a).take (b - a)).toArray⟩ := by
  rw [Lib.extract_eq]

theorem stepSls_sound {t : TypeId} {x : SV} {lo hi : Option SV} (ht : c.P.underlying t = some .string) (h : stepSls x lo hi K) : ∃ s, K s ∧ ∀ (w : World) (M : Nat → Prop) (u : Value) (l r : Option Value), RelV w M C x u →
    (∀ z, lo = some z → ∃ v, l = some v ∧ RelV w M C z v) → (lo = none → l = none) → (∀ z, hi = some z → ∃ v, r = some v ∧ RelV w M C z v) → (hi = none → r = none) →
    ∃ q, (Instr.sliceAt t u l r none).run c.P w = .ok q w ∧ RelV w M C s q := by
  unfold stepSls at h
  split at h
  · rename_i s
    split at h
    · rename_i k a
      obtain ⟨h0, h1, h⟩ := h
      refine ⟨_, h, fun w M u l r hu hl _ _ hr => ?_⟩
      obtain ⟨v, rfl, hv⟩ := hl _ rfl
      rw [relV_str.1 hu, relV_int.1 hv, hr rfl]
      refine ⟨.string ⟨(s.drop a.toNat).toArray⟩, ?_, relV_str.2 rfl⟩
      simp [Instr.sliceAt, Instr.slice, run_underlying ht, Instr.sliceBounds, Instr.sliceBound, asIntOf, ba_size, h0, h1, ba_extract]
      rw [List.take_of_length_le (by simp)]
    · rename_i k b
      obtain ⟨h0, h1, h⟩ := h
      refine ⟨_, h, fun w M u l r hu _ hl hr _ => ?_⟩
      obtain ⟨v, rfl, hv⟩ := hr _ rfl
      rw [relV_str.1 hu, relV_int.1 hv, hl rfl]
      refine ⟨.string ⟨(s.take b.toNat).toArray⟩, ?_, relV_str.2 rfl⟩
      simp [Instr.sliceAt, Instr.slice, run_underlying ht, Instr.sliceBounds, Instr.sliceBound, asIntOf, ba_size, h0, h1, ba_extract]
    · rename_i k a k' b
      obtain ⟨h0, h1, h2, h⟩ := h
      refine ⟨_, h, fun w M u l r hu hl _ hr _ => ?_⟩
      obtain ⟨v, rfl, hv⟩ := hl _ rfl
      obtain ⟨v', rfl, hv'⟩ := hr _ rfl
      rw [relV_str.1 hu, relV_int.1 hv, relV_int.1 hv']
      have h3 : 0 ≤ b := by omega
      have h4 : ¬ max b 0 < a := by omega
      refine ⟨.string ⟨((s.take b.toNat).drop a.toNat).toArray⟩, ?_, relV_str.2 rfl⟩
      simp [Instr.sliceAt, Instr.slice, run_underlying ht, Instr.sliceBounds, Instr.sliceBound, asIntOf, ba_size, h0, h2, h3, h4, ba_extract, List.drop_take]
    · refine ⟨_, h, fun w M u l r hu _ hl _ hr => ?_⟩
      rw [relV_str.1 hu, hl rfl, hr rfl]
      refine ⟨.string ⟨s.toArray⟩, ?_, relV_str.2 rfl⟩
      simp [Instr.sliceAt, Instr.slice, run_underlying ht, Instr.sliceBounds]
    · exact h.elim
  · exact h.elim

theorem takeD_ofL : ∀ (xs : List D) (n : Nat), (ofL xs).takeD n = ofL (xs.take n)
  | [], n => by cases n <;> rfl
  | x :: xs, 0 => rfl
  | x :: xs, n + 1 => by simp [ofL, D.takeD, takeD_ofL xs n]
theorem dropD_ofL : ∀ (xs : List D) (n : Nat), (ofL xs).dropD n = ofL (xs.drop n)
  | [], n => by cases n <;> rfl
  | x :: xs, 0 => rfl
  | x :: xs, n + 1 => by simp [ofL, D.dropD, dropD_ofL xs n]

/-- the bounds, read by the machine. -/
theorem sliceB_run {lo hi : Option SV} {n : Nat} {K : Nat → Nat → Prop} (h : sliceB lo hi n K) : ∃ a b, a ≤ b ∧ b ≤ n ∧ K a b ∧ ∀ (P : Program) (w : World) (M : Nat → Prop) (cp : Nat) (l r : Option Value), n ≤ cp →
    (∀ z, lo = some z → ∃ v, l = some v ∧ RelV w M C z v) → (lo = none → l = none) → (∀ z, hi = some z → ∃ v, r = some v ∧ RelV w M C z v) → (hi = none → r = none) →
    (Instr.sliceBounds true n cp l r none).run P w = .ok (a, b, cp) w := by
  unfold sliceB at h
  split at h
  · refine ⟨0, n, Nat.zero_le _, Nat.le_refl _, h, fun P w M cp l r hc _ hl _ hr => ?_⟩
    rw [hl rfl, hr rfl]
    simp [Instr.sliceBounds]
  · rename_i k a
    obtain ⟨⟨h0, h1⟩, h⟩ := h
    refine ⟨a.toNat, n, by omega, Nat.le_refl _, h, fun P w M cp l r hc hl _ _ hr => ?_⟩
    obtain ⟨v, rfl, hv⟩ := hl _ rfl
    rw [relV_int.1 hv, hr rfl]
    simp [Instr.sliceBounds, Instr.sliceBound, asIntOf, h0, h1]
  · rename_i k b
    obtain ⟨⟨h0, h1⟩, h⟩ := h
    refine ⟨0, b.toNat, Nat.zero_le _, by omega, h, fun P w M cp l r hc _ hl hr _ => ?_⟩
    obtain ⟨v, rfl, hv⟩ := hr _ rfl
    have h2 : b ≤ cp := by omega
    rw [relV_int.1 hv, hl rfl]
    simp [Instr.sliceBounds, Instr.sliceBound, asIntOf, h0, h2]
  · rename_i k a k' b
    obtain ⟨⟨h0, h1, h2⟩, h⟩ := h
    refine ⟨a.toNat, b.toNat, by omega, by omega, h, fun P w M cp l r hc hl _ hr _ => ?_⟩
    obtain ⟨v, rfl, hv⟩ := hl _ rfl
    obtain ⟨v', rfl, hv'⟩ := hr _ rfl
    have h3 : b ≤ cp := by omega
    have h4 : 0 ≤ b := by omega
    have h5 : ¬ max b 0 < a := by omega
    rw [relV_int.1 hv, relV_int.1 hv']
    simp [Instr.sliceBounds, Instr.sliceBound, asIntOf, h0, h3, h4, h5]
  · exact h.elim

theorem run_slice_bounds {P : Program} {t e : TypeId} {inf : TypeInfo} (ht : P.underlying t = some (.slice e)) (hi : P.info? e = some inf) {ad : Option Addr} {n cp a b m : Nat} {l r mx : Option Value} {w : World}
    (h : (Instr.sliceBounds true n cp l r mx).run P w = .ok (a, b, m) w) :
    (Instr.sliceAt t (.slice ad n cp) l r mx).run P w = .ok (.slice (if m = a then ad else ad.map (·.add (a * inf.size))) (b - a) (m - a)) w := by
  simp [Instr.sliceAt, Instr.slice, run_underlying ht, sizeOf, typeInfo, hi, h]

theorem slx_shared {t e : TypeId} {inf : TypeInfo} {xs : D} {lo hi : Option SV} (ht : c.P.underlying t = some (.slice e)) (hinf : c.P.info? e = some inf) (h : sliceB lo hi xs.len fun a b => K (.d (.sl false inf.size (xs.sub a b)))) :
    ∃ s, K s ∧ ∀ (w : World) (M : Nat → Prop) (u : Value) (l r : Option Value), RelV w M C (.d (.sl false inf.size xs)) u →
    (∀ z, lo = some z → ∃ v, l = some v ∧ RelV w M C z v) → (lo = none → l = none) → (∀ z, hi = some z → ∃ v, r = some v ∧ RelV w M C z v) → (hi = none → r = none) →
    ∃ q, (Instr.sliceAt t u l r none).run c.P w = .ok q w ∧ RelV w M C s q := by
  obtain ⟨a, b, hab, hbn, hK, hrun⟩ := sliceB_run (C := C) h
  refine ⟨_, hK, fun w M u l r hu h1 h2 h3 h4 => ?_⟩
  obtain ⟨ad, cp, rfl, hL, ad', cp', ds, fps, e1, e2, h5, h6⟩ := relV_sl hu
  injection e1 with e1 _
  injection e1 with ea _ ec
  subst ea ec
  have hr := run_slice_bounds (ad := ad) ht hinf (hrun c.P w M cp l r e2 h1 h2 h3 h4)
  refine ⟨_, hr, ?_⟩
  obtain ⟨q, rfl⟩ := ofL_of_isL _ hL
  rw [len_ofL] at hbn e2
  have hu := (isL_ofL q).1 hL
  simp only [Bool.false_eq_true, if_false] at h6
  obtain ⟨rfl, _, h6⟩ := h6
  have hsub : (ofL q).sub a b = ofL ((q.take b).drop a) := by unfold D.sub; rw [takeD_ofL, dropD_ofL]
  rw [hsub]
  have hlen : ((q.take b).drop a).length = b - a := by simp; omega
  have hsp : q = q.take b ++ q.drop b := (List.take_append_drop b q).symm
  have hsp2 : q.take b = (q.take b).take a ++ (q.take b).drop a := (List.take_append_drop a _).symm
  rw [hsp] at h5
  obtain ⟨c1, c2, f1, f2, rfl, hf, h7, h8⟩ := (rep_append _ _ _ _).1 h5
  rw [hsp2] at h7
  obtain ⟨c3, c4, f3, f4, rfl, hf', h9, h10⟩ := (rep_append _ _ _ _).1 h7
  have hf0 : f3 = [] ∧ f4 = [] := by
    have := hf.symm
    rw [hf'] at this
    simp only [List.append_eq_nil_iff] at this
    exact this.1
  obtain ⟨rfl, rfl⟩ := hf0
  have l3 : c3.length = a * inf.size := by
    rw [rep_length _ _ _ h9, size_ofL _ (fun y hy => hu y (List.mem_of_mem_take (List.mem_of_mem_take hy)))]
    rw [List.length_take, List.length_take, show min a (min b q.length) = a by omega]
  have l4 : c4.length = (b - a) * inf.size := by
    rw [rep_length _ _ _ h10, size_ofL _ (fun y hy => hu y (List.mem_of_mem_take (List.mem_of_mem_drop hy))), hlen]
  refine ⟨_, ⟨(isL_ofL _).2 (fun y hy => hu y (List.mem_of_mem_take (List.mem_of_mem_drop hy))), _, cp - a, c4, [], by rw [len_ofL, hlen], by rw [len_ofL, hlen]; omega, h10, ?_⟩, rfl⟩
  simp only [Bool.false_eq_true, if_false, true_and]
  rw [len_ofL, hlen]
  by_cases h0 : b - a = 0
  · exact .inl h0
  · right
    rcases h6 with h6 | ⟨ad0, rfl, h6⟩
    · rw [len_ofL] at h6; omega
    · refine ⟨ad0.add (a * inf.size), ?_, ?_⟩
      · rw [if_neg (by omega)]; rfl
      · have hsb : Holds w M (ad0.add (a * inf.size)) ((((c3 ++ c4) ++ c2).drop (a * inf.size)).take ((b - a) * inf.size)) := by
          rcases h6 with h6 | ⟨k1, k2, k3⟩
          · exact .inl (by rw [h6]; simp)
          · have hadd : ∀ j, (ad0.add (a * inf.size)).add j = ad0.add (a * inf.size + j) := fun j => by
              unfold Addr.add
              by_cases h1 : a * inf.size = 0 <;> by_cases h2 : j = 0 <;> simp [h1, h2, Nat.add_assoc]
            have hb : (ad0.add (a * inf.size)).block = ad0.block := by unfold Addr.add; split <;> rfl
            refine .inr ⟨by rw [hb]; exact k1, by rw [hb]; exact k2, fun j u hu => ?_⟩
            rw [hadd]
            refine k3 _ u ?_
            rw [List.getElem?_take] at hu
            split at hu
            · rwa [List.getElem?_drop] at hu
            · cases hu
        rw [List.append_assoc, ← l3, List.drop_left, ← l4, List.take_left] at hsb
        rw [← l3]
        exact hsb

theorem stepSlx_sound {t e : TypeId} {inf : TypeInfo} {x : SV} {lo hi : Option SV} (ht : c.P.underlying t = some (.slice e)) (hinf : c.P.info? e = some inf) (h : stepSlx ob inf.size x lo hi K) :
    ∃ s, K s ∧ ∀ (w : World) (u : Value) (l r : Option Value), RelW c ob C w → RelV w (Ms c C) C x u →
    (∀ z, lo = some z → ∃ v, l = some v ∧ RelV w (Ms c C) C z v) → (lo = none → l = none) → (∀ z, hi = some z → ∃ v, r = some v ∧ RelV w (Ms c C) C z v) → (hi = none → r = none) →
    ∃ q, (Instr.sliceAt t u l r none).run c.P w = .ok q w ∧ RelV w (Ms c C) C s q := by
  unfold stepSlx at h
  split at h
  · rename_i es' xs
    obtain ⟨rfl, h⟩ := h
    obtain ⟨s, hK, hs⟩ := slx_shared (C := C) ht hinf h
    exact ⟨s, hK, fun w u l r _ hu => hs w _ u l r hu⟩
  · obtain ⟨a, b, hab, hbn, hK, hrun⟩ := sliceB_run (C := C) h
    refine ⟨_, hK, fun w u l r _ hu h1 h2 h3 h4 => ?_⟩
    have hu : u = .slice none 0 0 := hu
    subst hu
    have hb0 : b = 0 := by omega
    have ha0 : a = 0 := by omega
    subst hb0 ha0
    have hr := run_slice_bounds (ad := none) ht hinf (hrun c.P w (Ms c C) 0 l r (Nat.le_refl _) h1 h2 h3 h4)
    exact ⟨_, hr, by simp [RelV, RelV0]⟩
  · rename_i q
    obtain ⟨ow, xs, h1, h⟩ := h
    unfold stepSlo at h
    split at h
    · obtain ⟨s, hK, hs⟩ := slx_shared (C := C) ht hinf h
      refine ⟨s, hK, fun w u l r hw hu => hs w _ u l r ?_⟩
      obtain ⟨oc, h2, rfl⟩ := hu
      obtain ⟨cs, h3, h4⟩ := hw.obs q _ oc h1 h2
      have hf : oc.fp = [] := by
        obtain ⟨_, _, _, _, _, _, _, _, h5⟩ := h3
        simp only [Bool.false_eq_true, if_false] at h5
        exact h5.2.1
      rw [hf] at h3
      exact ⟨cs, h3, h4⟩
    · rename_i k a
      obtain ⟨⟨h0, hlt⟩, hK⟩ := h
      refine ⟨_, hK, fun w u l r hw hu g1 g2 g3 g4 => ?_⟩
      obtain ⟨oc, h2, rfl⟩ := hu
      obtain ⟨ad, cp, hv, hr⟩ := own_sl hw h1 h2
      obtain ⟨_, a', c', ds, fps, e1, e2, h3, h4⟩ := hr
      injection e1 with e1 _
      injection e1 with ea _ ec
      subst ea ec
      simp only [if_true] at h4
      rcases h4 with ⟨rfl, _, _⟩ | ⟨g, rfl, hrow, _⟩
      · omega
      obtain ⟨v, rfl, hvv⟩ := g1 _ rfl
      rw [relV_int.1 hvv, g4 rfl, hv]
      have hb : (Instr.sliceBounds true xs.len cp (some (.int k a)) none none).run c.P w = .ok (a.toNat, xs.len, cp) w := by
        have : a ≤ xs.len := by omega
        simp [Instr.sliceBounds, Instr.sliceBound, asIntOf, h0, this]
      have hr := run_slice_bounds (ad := some ⟨g, 0, none⟩) ht hinf hb
      refine ⟨_, hr, oc, g, xs.len, cp, h2, hv, by omega, e2, ?_⟩
      rw [if_neg (by omega)]
      have hadd : (⟨g, 0, none⟩ : Addr).add (a.toNat * inf.size) = ⟨g, a.toNat * inf.size, none⟩ := by unfold Addr.add; split <;> simp_all
      simp only [Option.map_some, hadd]
    · exact h.elim
  · exact h.elim

theorem stepSl0_sound {t e : TypeId} {inf : TypeInfo} {x : SV} (ht : c.P.underlying t = some (.slice e)) (hinf : c.P.info? e = some inf) (h : stepSl0 ob inf.size x K) :
    ∃ s, K s ∧ ∀ (w : World) (u : Value) (l : Option Value), RelW c ob C w → RelV w (Ms c C) C x u → (l = none ∨ ∃ k, l = some (.int k 0)) → ∀ (k1 k2 : IntKind),
    ∃ q, (Instr.sliceAt t u l (some (.int k1 0)) (some (.int k2 0))).run c.P w = .ok q w ∧ RelV w (Ms c C) C s q := by
  have key : ∀ (w : World) (ad : Option Addr) (n cp : Nat) (l : Option Value), (l = none ∨ ∃ k, l = some (.int k 0)) → ∀ (k1 k2 : IntKind), (Instr.sliceAt t (.slice ad n cp) l (some (.int k1 0)) (some (.int k2 0))).run c.P w = .ok (.slice ad 0 0) w := by
    intro w ad n cp l hl k1 k2
    have hb : (Instr.sliceBounds true n cp l (some (.int k1 0)) (some (.int k2 0))).run c.P w = .ok (0, 0, 0) w := by
      have h0 : (0 : Int) ≤ cp := by omega
      rcases hl with rfl | ⟨k, rfl⟩ <;> simp [Instr.sliceBounds, Instr.sliceBound, asIntOf, h0]
    have := run_slice_bounds (ad := ad) ht hinf hb
    simpa using this
  have fin : ∀ (w : World) (ad : Option Addr), RelV w (Ms c C) C (.d (.sl true inf.size .nil)) (.slice ad 0 0) := fun w ad =>
    ⟨[.slice ad 0 0], ⟨trivial, ad, 0, [], [], rfl, Nat.le_refl _, ⟨rfl, rfl⟩, by simp⟩, rfl⟩
  unfold stepSl0 at h
  split at h
  · refine ⟨_, h, fun w u l hw hu hl k1 k2 => ?_⟩
    obtain ⟨ad, cp, rfl, _⟩ := relV_sl hu
    exact ⟨_, key w ad _ cp l hl k1 k2, fin w ad⟩
  · refine ⟨_, h, fun w u l hw hu hl k1 k2 => ?_⟩
    have hu : u = .slice none 0 0 := hu
    subst hu
    exact ⟨_, key w none _ 0 l hl k1 k2, rfl⟩
  · rename_i r
    obtain ⟨⟨es', xs, ow, h1⟩, h⟩ := h
    refine ⟨_, h, fun w u l hw hu hl k1 k2 => ?_⟩
    obtain ⟨oc, h2, rfl⟩ := hu
    obtain ⟨ad, cp, hv, _⟩ := own_sl hw h1 h2
    rw [hv]
    exact ⟨_, key w ad _ cp l hl k1 k2, fin w ad⟩
  · exact h.elim

theorem stepShr_sound {t : TypeId} {x y : SV} (h : stepShr x y K) : ∃ s, K s ∧ ∀ (w : World) (M : Nat → Prop) (u v : Value) (p q : Operand), RelV w M C x u → RelV w M C y v →
    ∃ r, (do eqGuard .shr t p q u v; binOp .shr t u v : Sem Value).run c.P w = .ok r w ∧ RelV w M C s r := by
  unfold stepShr at h
  split at h
  · rename_i k a k' n
    obtain ⟨h0, h⟩ := h
    refine ⟨_, h, fun w M u v p q hu hv => ?_⟩
    rw [relV_int.1 hu, relV_int.1 hv]
    have hn : ¬ n < 0 := by omega
    exact ⟨_, by simp [eqGuard, binOp, Op.shift, hn], relV_int.2 rfl⟩
  · exact h.elim

theorem bytesD_rep {w : World} {M : Nat → Prop} : ∀ (bs : List UInt8) (cs : List Value) (fp : List Nat), (bytesD bs).rep w M cs fp → cs = bs.map (fun b => .int .u8 (b.toNat : Int))
  | [], cs, fp, h => h.1
  | b :: bs, cs, fp, h => by
    obtain ⟨c1, c2, f1, f2, rfl, rfl, ⟨rfl, _⟩, h2⟩ := h
    rw [bytesD_rep bs c2 f2 h2]; rfl
theorem bytesD_len : ∀ bs : List UInt8, (bytesD bs).len = bs.length
  | [] => rfl
  | b :: bs => by simp [bytesD, D.len, bytesD_len bs]

theorem stepB2s_sound {src dst e : TypeId} {x : SV} (hs : c.P.underlying src = some (.slice e)) (he : c.P.underlying e = some (.int .u8)) (hd : c.P.underlying dst = some .string) (h : stepB2s ob x K) :
    ∃ s, K s ∧ ∀ (w : World) (u : Value), RelW c ob C w → RelV w (Ms c C) C x u → ∃ r, (convert src dst u).run c.P w = .ok r w ∧ RelV w (Ms c C) C s r := by
  have none_ : ∀ (w : World) (cp : Nat), (convert src dst (.slice none 0 cp)).run c.P w = .ok (.string ⟨#[]⟩) w := fun w cp => by
    rw [run_convert_bytes_string w src dst e none 0 cp hs he hd]
    rfl
  have some_ : ∀ (w : World) (ad : Addr) (cp : Nat) (bs : List UInt8), (∀ (j : Nat) (u : Value), (bs.map (fun b => Value.int .u8 (b.toNat : Int)))[j]? = some u → w.cell? (ad.add j) = some u) →
      (convert src dst (.slice (some ad) bs.length cp)).run c.P w = .ok (.string ⟨bs.toArray⟩) w := fun w ad cp bs hc =>
    run_convert_bytes_back w src dst e ad cp bs hs he hd (fun j hj => hc j _ (by simp [hj]))
  have empty : ∀ (w : World) (a : Option Addr) (cp : Nat), (convert src dst (.slice a 0 cp)).run c.P w = .ok (.string ⟨#[]⟩) w := fun w a cp => by
    cases a with
    | none => exact none_ w cp
    | some ad => exact some_ w ad cp [] (fun j u h => by simp at h)
  have gen : ∀ (w : World) (M : Nat → Prop) (ow : Bool) (bs : List UInt8) (a : Option Addr) (cp : Nat) (fp : List Nat), (D.sl ow 1 (bytesD bs)).rep w M [.slice a (bytesD bs).len cp] fp →
      (convert src dst (.slice a (bytesD bs).len cp)).run c.P w = .ok (.string ⟨bs.toArray⟩) w := by
    intro w M ow bs a cp fp h
    obtain ⟨_, a', cp', ds, fps, e1, e2, h3, h4⟩ := h
    injection e1 with e1 _
    injection e1 with ea _ ec
    subst ea ec
    have hds := bytesD_rep bs ds fps h3
    rw [bytesD_len] at *
    have emp : bs.length = 0 → (convert src dst (.slice a bs.length cp)).run c.P w = .ok (.string ⟨bs.toArray⟩) w := fun h0 => by
      rw [h0, List.eq_nil_of_length_eq_zero h0]; exact empty w a cp
    cases ow with
    | false =>
      simp only [Bool.false_eq_true, if_false] at h4
      rcases h4.2.2 with h5 | ⟨ad, rfl, h5⟩
      · exact emp h5
      · rcases h5 with h5 | ⟨_, _, h5⟩
        · refine emp ?_
          rw [h5] at hds
          have := congrArg List.length hds
          simpa using this.symm
        · exact some_ w ad cp bs (fun j u hu => h5 j u (by rw [hds]; exact hu))
    | true =>
      simp only [if_true] at h4
      rcases h4 with ⟨rfl, _, _⟩ | ⟨g, rfl, hrow, _⟩
      · exact emp (by omega)
      · rcases Holds.of_row (M := fun _ => False) hrow (fun h => h) with h5 | ⟨_, _, h5⟩
        · refine emp ?_
          rw [h5] at hds
          have := congrArg List.length hds
          simpa using this.symm
        · exact some_ w _ cp bs (fun j u hu => h5 j u (by rw [hds]; exact hu))
  unfold stepB2s at h
  split at h
  · rename_i ow xs
    obtain ⟨bs, rfl, h⟩ := h
    refine ⟨_, h, fun w u hw hu => ?_⟩
    obtain ⟨a, cp, rfl, hr⟩ := relV_sl hu
    exact ⟨_, gen w _ ow bs a cp [] hr, relV_str.2 rfl⟩
  · refine ⟨_, h, fun w u hw hu => ?_⟩
    have hu : u = .slice none 0 0 := hu
    subst hu
    exact ⟨_, none_ w 0, relV_str.2 rfl⟩
  · rename_i r
    obtain ⟨bs, ow, h1, h⟩ := h
    refine ⟨_, h, fun w u hw hu => ?_⟩
    obtain ⟨oc, h2, rfl⟩ := hu
    obtain ⟨a, cp, hv, hr⟩ := own_sl hw h1 h2
    rw [hv]
    exact ⟨_, gen w _ ow bs a cp _ hr, relV_str.2 rfl⟩
  · exact h.elim
end
end Go.Pe

/- A call by its contract where nothing is to be owned; and the whole of what writes nothing. -/
namespace Go.Pe
open Go Go.RowKit

theorem pack_unown (x : D) (cs : List Value) : pack x.unown cs = pack x cs := by cases x <;> rfl

theorem RowAt.eq {w : World} {g : Nat} {cs ds : List Value} (h : RowAt w g cs.length cs) (k : RowAt w g ds.length ds) : cs = ds := by
  obtain ⟨cur, E, h1, h2, h3⟩ := h
  obtain ⟨cur', E', k1, k2, k3⟩ := k
  have k1 := h1.eq k1
  subst k1
  rw [List.take_of_length_le (by simp [h2])] at h3
  rw [List.take_of_length_le (by simp [k2])] at k3
  rw [← h3, ← k3]

section
variable {c : Ctx} {ob : List Ob} {C : List OC} {w w' : World} {M M' : Nat → Prop}

theorem arg_rep {s : SV} {x : D} {v : Value} (hw : RelW c ob C w) (ha : argOf ob s x) (hv : RelV w (Ms c C) C s v) : ∃ cs, v = pack x cs ∧ x.rep w (fun _ => False) cs [] := by
  cases s with
  | d y =>
    obtain ⟨cs, h1, h2⟩ := hv
    have ha : x = y := ha
    subst ha
    exact ⟨cs, h2, rep_frame (Nat.le_refl _) (fun _ _ h => h.elim) _ _ _ (fun _ _ _ => rfl) h1⟩
  | own r =>
    obtain ⟨y, h1, rfl⟩ := ha
    obtain ⟨oc, h2, rfl⟩ := hv
    obtain ⟨cs, h3, h4⟩ := hw.obs r _ oc h1 h2
    exact ⟨cs, by rw [pack_unown]; exact h4, rep_unown _ _ _ (fun _ h => h.elim) (fun _ _ h => h) h3⟩
  | vw r =>
    obtain ⟨xs, h1, rfl⟩ := ha
    obtain ⟨oc, cs, h2, _, h4, rfl⟩ := hv
    obtain ⟨cs', fps, h5, h6, _⟩ := hw.obs r _ oc h1 h2
    have := h4.eq h5
    subst this
    exact ⟨cs, rfl, rep_unown (.st xs) _ _ (fun _ h => h.elim) (fun _ _ h => h) h6⟩
  | nil =>
    obtain ⟨es, rfl⟩ := ha
    have hv : v = .slice none 0 0 := hv
    exact ⟨[.slice none 0 0], hv, trivial, none, 0, [], [], rfl, Nat.le_refl _, ⟨rfl, rfl⟩, by simp [D.len]⟩
  | _ => exact ha.elim

theorem arg_repD {s : SV} {x : D} {v : Value} (ha : argOf ob s x) (hd : isD s = true) (hv : RelV w M C s v) : ∃ cs, v = pack x cs ∧ x.rep w M cs [] := by
  cases s with
  | d y =>
    obtain ⟨cs, h1, h2⟩ := hv
    have ha : x = y := ha
    subst ha
    exact ⟨cs, h2, h1⟩
  | nil =>
    obtain ⟨es, rfl⟩ := ha
    have hv : v = .slice none 0 0 := hv
    exact ⟨[.slice none 0 0], hv, trivial, none, 0, [], [], rfl, Nat.le_refl _, ⟨rfl, rfl⟩, by simp [D.len]⟩
  | _ => cases hd

theorem args_rep : ∀ (ss : List SV) (ds : List D) (vs : List Value), RelW c ob C w → argsOf ob ss ds → vs.length = ss.length → (∀ (i : Nat) (s : SV) (v : Value), ss[i]? = some s → vs[i]? = some v → RelV w (Ms c C) C s v) →
    RepVs w (fun _ => False) ds vs []
  | [], ds, vs, _, ha, hl, _ => by
    have ha : ds = [] := ha
    subst ha
    exact ⟨List.eq_nil_of_length_eq_zero hl, rfl⟩
  | s :: ss, ds, vs, hw, ha, hl, hv => by
    obtain ⟨x, xs, rfl, h1, h2⟩ := ha
    match vs, hl with
    | v :: vs, hl =>
      obtain ⟨cs, rfl, h3⟩ := arg_rep hw h1 (hv 0 s v rfl rfl)
      exact ⟨cs, vs, [], [], rfl, rfl, h3, args_rep ss xs vs hw h2 (by simpa using hl) (fun i s v h4 h5 => hv (i + 1) s v h4 h5)⟩

theorem args_repD : ∀ (ss : List SV) (ds : List D) (vs : List Value), argsOf ob ss ds → ss.all isD = true → vs.length = ss.length → (∀ (i : Nat) (s : SV) (v : Value), ss[i]? = some s → vs[i]? = some v → RelV w M C s v) →
    RepVs w M ds vs []
  | [], ds, vs, ha, _, hl, _ => by
    have ha : ds = [] := ha
    subst ha
    exact ⟨List.eq_nil_of_length_eq_zero hl, rfl⟩
  | s :: ss, ds, vs, ha, hd, hl, hv => by
    obtain ⟨x, xs, rfl, h1, h2⟩ := ha
    simp only [List.all_cons, Bool.and_eq_true] at hd
    match vs, hl with
    | v :: vs, hl =>
      obtain ⟨cs, rfl, h3⟩ := arg_repD h1 hd.1 (hv 0 s v rfl rfl)
      exact ⟨cs, vs, [], [], rfl, rfl, h3, args_repD ss xs vs h2 hd.2 (by simpa using hl) (fun i s v h4 h5 => hv (i + 1) s v h4 h5)⟩

theorem res_rel : ∀ (rs : List D) (us : List Value) (fp : List Nat), (∀ b, M' b → M b) → (∀ b ∈ fp, ¬ M' b) → RepVs w M rs us fp →
    us.length = rs.length ∧ ∀ (i : Nat) (x : D) (u : Value), rs[i]? = some x → us[i]? = some u → RelV0 w M' C (.d x.unown) u
  | [], us, fp, _, _, h => by rw [h.1]; exact ⟨rfl, fun i x u h => by simp at h⟩
  | x :: rs, us, fp, hM, hf, h => by
    obtain ⟨cs, us', f1, f2, rfl, rfl, h1, h2⟩ := h
    obtain ⟨h3, h4⟩ := res_rel rs us' f2 hM (fun b hb => hf b (by simp [hb])) h2
    refine ⟨by simp [h3], fun i y u hy hu => ?_⟩
    cases i with
    | zero =>
      simp only [List.getElem?_cons_zero, Option.some.injEq] at hy hu
      subst hy hu
      exact ⟨cs, rep_unown _ _ _ hM (fun b hb => hf b (by simp [hb])) h1, by rw [pack_unown]⟩
    | succ i => exact h4 i y u (by simpa using hy) (by simpa using hu)

theorem res_allOwn : ∀ (rs : List D) (us : List Value) (fp : List Nat), rs.all D.allOwn = true → RepVs w M rs us fp → RepVs w M' rs us fp
  | [], us, fp, _, h => h
  | x :: rs, us, fp, ho, h => by
    simp only [List.all_cons, Bool.and_eq_true] at ho
    obtain ⟨cs, us', f1, f2, rfl, rfl, h1, h2⟩ := h
    exact ⟨cs, us', f1, f2, rfl, rfl, rep_allOwn _ _ _ ho.1 h1, res_allOwn rs us' f2 ho.2 h2⟩

theorem resSV_rel {rs : List D} {us : List Value} (hl : us.length = rs.length) (h : ∀ (i : Nat) (x : D) (u : Value), rs[i]? = some x → us[i]? = some u → RelV0 w M C (.d x) u) : RelV w M C (resSV rs) (retV us) := by
  match rs, us, hl with
  | [], [], _ => exact ⟨[], rfl, rfl, fun i s u h => by simp at h⟩
  | [x], [u], _ => exact h 0 x u rfl rfl
  | x :: y :: rs, u :: v :: us, hl =>
    refine ⟨u :: v :: us, rfl, by simpa using hl, fun i s q hs hq => ?_⟩
    rw [List.getElem?_map, Option.map_eq_some_iff] at hs
    obtain ⟨z, hz, rfl⟩ := hs
    exact h i z q hz hq

theorem callP_core {f : FuncId} {vs : List Value} {ds rs : List D} (hw : RelW c ob C w) (h0 : RepVs w (Ms c C) ds vs [] ∨ (rs.all D.allOwn = true ∧ RepVs w (fun _ => False) ds vs [])) (hF : Fn c.G f ds (fun qs => qs = rs)) :
    Calls c.P f vs.toArray w fun e w' => ∃ v, e = .returned v ∧ RelV w' (Ms c C) C (resSV (rs.map D.unown)) v ∧ Ext w w' := by
  have key : ∀ (us : List Value) (fp : List Nat) (w' : World) (M : Nat → Prop), Ext w w' → (∀ b ∈ fp, w.heap.size ≤ b) → RepVs w' M rs us fp → (∀ b, Ms c C b → M b) → RelV w' (Ms c C) C (resSV (rs.map D.unown)) (retV us) := by
    intro us fp w' M hx hfp hr hM
    obtain ⟨h1, h2⟩ := res_rel (C := C) (M' := Ms c C) rs us fp hM (fun b hb h => by have := Ms.lt hw h; have := hfp b hb; omega) hr
    refine resSV_rel (by simpa using h1) (fun i x u hx hu => ?_)
    rw [List.getElem?_map, Option.map_eq_some_iff] at hx
    obtain ⟨y, hy, rfl⟩ := hx
    exact h2 i y u hy hu
  rcases h0 with h0 | ⟨ho, h0⟩
  · refine (hF (Ms c C) vs w (fun b hb => Ms.lt hw hb) hw.glob h0).mono ?_
    rintro e w' ⟨rs', us, fp, rfl, rfl, hr, _, hfp, hx⟩
    exact ⟨_, rfl, key us fp w' _ hx hfp hr (fun b hb => .inl hb), hx⟩
  · refine (hF (fun _ => False) vs w (fun b hb => hb.elim) (hw.glob.frame (fun _ _ h => h.elim) (Nat.le_refl _) (fun _ _ _ => rfl)) h0).mono ?_
    rintro e w' ⟨rs', us, fp, rfl, rfl, hr, _, hfp, hx⟩
    exact ⟨_, rfl, key us fp w' (Ms c C) hx hfp (res_allOwn _ _ _ ho hr) (fun b hb => hb), hx⟩

theorem callP_sound {f : FuncId} {vs : List Value} {ss : List SV} {ds rs : List D} (hw : RelW c ob C w) (ha : argsOf ob ss ds) (hl : vs.length = ss.length)
    (hv : ∀ (i : Nat) (s : SV) (v : Value), ss[i]? = some s → vs[i]? = some v → RelV w (Ms c C) C s v) (hF : Fn c.G f ds (fun qs => qs = rs)) (hok : ss.all isD = true ∨ rs.all D.allOwn = true) :
    Calls c.P f vs.toArray w fun e w' => ∃ v, e = .returned v ∧ RelV w' (Ms c C) C (resSV (rs.map D.unown)) v ∧ Ext w w' := by
  refine callP_core hw ?_ hF
  rcases hok with hd | ho
  · exact .inl (args_repD ss ds vs ha hd hl hv)
  · exact .inr ⟨ho, args_rep ss ds vs hw ha hl hv⟩

theorem one_pack {x : D} {cs : List Value} {fp : List Nat} (h1 : x.isOne = true) (hr : x.rep w M cs fp) : cs = [pack x cs] := by
  have hl : cs.length = 1 := by rw [rep_length _ _ _ hr]; cases x <;> first | rfl | cases h1
  match cs, hl with
  | [u], _ => cases x <;> first | rfl | cases h1

theorem capsD_rep : ∀ (ss : List SV) (vs : List Value) (xs : D), capsD ss = some xs → vs.length = ss.length → (∀ (i : Nat) (s : SV) (v : Value), ss[i]? = some s → vs[i]? = some v → RelV w M C s v) → xs.rep w M vs []
  | [], vs, xs, h, hl, _ => by
    injection h with h
    subst h
    exact ⟨List.eq_nil_of_length_eq_zero hl, rfl⟩
  | .d x :: ss, vs, xs, h, hl, hv => by
    simp only [capsD] at h
    split at h
    · rename_i h1
      obtain ⟨ys, hy, rfl⟩ := Option.map_eq_some_iff.1 h
      match vs, hl with
      | v :: vs, hl =>
        have ih := capsD_rep ss vs ys hy (by simpa using hl) (fun i s u hs hu => hv (i + 1) s u (by simpa using hs) (by simpa using hu))
        obtain ⟨cs, hr, hp⟩ := hv 0 (.d x) v rfl rfl
        have he := one_pack h1 hr
        rw [← hp] at he
        exact ⟨cs, vs, [], [], by rw [he]; rfl, rfl, hr, ih⟩
    · cases h
  | .any :: ss, vs, xs, h, _, _ => by cases h
  | .undef :: ss, vs, xs, h, _, _ => by cases h
  | .nil :: ss, vs, xs, h, _, _ => by cases h
  | .own _ :: ss, vs, xs, h, _, _ => by cases h
  | .ptr _ _ _ :: ss, vs, xs, h, _, _ => by cases h
  | .el _ _ _ _ _ :: ss, vs, xs, h, _, _ => by cases h
  | .vw _ :: ss, vs, xs, h, _, _ => by cases h
  | .win _ _ _ :: ss, vs, xs, h, _, _ => by cases h
  | .tup _ :: ss, vs, xs, h, _, _ => by cases h

/-- what a function value has captured, as arguments. -/
theorem caps_args : ∀ (xs : D) (es : List Value), xs.caps = true → xs.rep w M es [] → RepVs w M xs.list es [] := by
  intro xs
  induction xs with
  | nil => intro es _ h; exact ⟨h.1, rfl⟩
  | cons x xs ih1 ih2 =>
    intro es hc h
    simp only [D.caps, Bool.and_eq_true] at hc
    obtain ⟨c1, c2, f1, f2, rfl, hf, hr, hs⟩ := h
    obtain ⟨rfl, rfl⟩ := List.append_eq_nil_iff.1 hf.symm
    have he := one_pack hc.1 hr
    exact ⟨c1, c2, [], [], congrArg (· ++ c2) he, rfl, hr, ih2 c2 hc.2 hs⟩
  | _ => intro es hc; cases hc

theorem repVs_app : ∀ (ds es : List D) (us vs : List Value), RepVs w M ds us [] → RepVs w M es vs [] → RepVs w M (ds ++ es) (us ++ vs) []
  | [], es, us, vs, h, k => by obtain ⟨rfl, _⟩ := h; exact k
  | d :: ds, es, us, vs, h, k => by
    obtain ⟨cs, us', f1, f2, rfl, hf, h1, h2⟩ := h
    have hf0 := List.append_eq_nil_iff.1 hf.symm
    obtain ⟨rfl, rfl⟩ := hf0
    exact ⟨cs, us' ++ vs, [], [], rfl, rfl, h1, repVs_app ds es us' vs h2 k⟩

theorem callV_sound {f : FuncId} {vs es : List Value} {ss : List SV} {ds rs : List D} {ys : D} (hw : RelW c ob C w) (ha : argsOf ob ss ds) (hl : vs.length = ss.length)
    (hv : ∀ (i : Nat) (s : SV) (v : Value), ss[i]? = some s → vs[i]? = some v → RelV w (Ms c C) C s v) (hys : ys.rep w (Ms c C) es []) (hcap : ys.caps = true) (hF : Fn c.G f (ds ++ ys.list) (fun qs => qs = rs)) (hok : ss.all isD = true ∨ rs.all D.allOwn = true) :
    Calls c.P f (vs ++ es).toArray w fun e w' => ∃ v, e = .returned v ∧ RelV w' (Ms c C) C (resSV (rs.map D.unown)) v ∧ Ext w w' := by
  refine callP_core hw ?_ hF
  rcases hok with hd | ho
  · exact .inl (repVs_app _ _ _ _ (args_repD ss ds vs ha hd hl hv) (caps_args ys es hcap hys))
  · exact .inr ⟨ho, repVs_app _ _ _ _ (args_rep ss ds vs hw ha hl hv) (caps_args ys es hcap (rep_frame (M' := fun _ => False) (Nat.le_refl _) (fun _ _ h => h.elim) _ _ _ (fun _ _ _ => rfl) hys))⟩
end

theorem enter_run {P : Program} {f : FuncId} (h : enterOK P f = true) (args : Array Value) (w : World) : (callFunc f args).run P w = .ok (.enter f args) w := by
  unfold enterOK at h
  cases hf : P.funcs[f]? with
  | none => rw [hf] at h; cases h
  | some fn =>
    rw [hf] at h
    simp only [Bool.and_eq_true, Bool.not_eq_true'] at h
    obtain ⟨h1, h2⟩ := h
    have h3 : fn.body ≠ none := by intro hb; rw [hb] at h2; cases h2
    have h4 : fn.name ≠ "runtime.NumGoroutine" := by simpa using h1
    simp [callFunc, hf, program, Sem.run, h3, h4]
end Go.Pe

/- An operation that writes nothing, walked, is sound: the whole. -/
namespace Go.Pe
open Go Go.RowKit

section
variable {c : Ctx} {ob : List Ob} {C : List OC} {o : Oper} {E : Nat → SV} {K : SV → Prop} {mo : MO}

theorem opdL_rel {a : Act} {w : World} : ∀ (xs : List Operand) (ps : List Opd), opdL xs = some ps → (∀ t, Operand.tmp t ∈ xs → RelV w (Ms c C) C (E t) (a.tmps.getD t Go.undef)) →
    (xs.map a.eval).length = (ps.map (evF E)).length ∧ ∀ (i : Nat) (s : SV) (v : Value), (ps.map (evF E))[i]? = some s → (xs.map a.eval)[i]? = some v → RelV w (Ms c C) C s v
  | [], ps, h, _ => by injection h with h; subst h; exact ⟨rfl, fun i s v h => by simp at h⟩
  | x :: xs, ps, h, ho => by
    unfold opdL at h
    split at h
    · rename_i p ps' h1 h2
      injection h with h
      subst h
      obtain ⟨h3, h4⟩ := opdL_rel xs ps' h2 (fun t ht => ho t (by simp [ht]))
      refine ⟨by simpa using h3, fun i s v hs hv => ?_⟩
      cases i with
      | zero =>
        simp only [List.map_cons, List.getElem?_cons_zero, Option.some.injEq] at hs hv
        subst hs hv
        exact opd_rel h1 (fun t ht => ho t (by simp [ht]))
      | succ i => exact h4 i s v (by simpa using hs) (by simpa using hv)
    · cases h

/-- of an operand that the operation has. -/
theorem orel {a : Act} {w : World} {x : Operand} {p : Opd} (ho : OpRel c C o E a w) (hm : x ∈ o.op.operands) (hx : opd x = some p) : RelV w (Ms c C) C (evF E p) (a.eval x) :=
  opd_rel hx (fun t ht => ho t (ht ▸ hm))

theorem wp_call {f : FuncId} {xs : Array Operand} {ts : Array TypeId} {a : Act} {w : World} {Q : Act → World → Prop} {R : Exit → Act → World → Prop} (hop : o.op = .call { callee := .value (.func f), args := xs, argTypes := ts })
    (he : enterOK c.P f = true) (h : Calls c.P f (xs.toList.map a.eval).toArray w fun e w' => ∃ v, e = .returned v ∧ Q (a.put o.dst v) w') : o.wp c.P a w Q R := by
  have hx : (Array.map a.eval xs) = (xs.toList.map a.eval).toArray := by apply Array.ext'; simp
  have hr : (execOp a.eval o).run c.P w = .ok (.enter f (xs.toList.map a.eval).toArray) w := by
    simp [execOp, hop, resolve, Deferred.ofValue, Act.eval, invoke, enter_run he, hx]
  unfold Oper.wp
  rw [hr, Oper.upon_enter]
  refine h.mono ?_
  rintro e w' ⟨v, rfl, hq⟩
  exact hq

/-- a call of a function value. -/
theorem wp_callV {f : FuncId} {t : Nat} {es : List Value} {xs : Array Operand} {ts : Array TypeId} {a : Act} {w : World} {Q : Act → World → Prop} {R : Exit → Act → World → Prop} (hop : o.op = .call { callee := .value (.tmp t), args := xs, argTypes := ts })
    (hv : a.tmps.getD t Go.undef = .func (.func f) #[] es.toArray) (he : enterOK c.P f = true) (h : Calls c.P f (xs.toList.map a.eval ++ es).toArray w fun e w' => ∃ v, e = .returned v ∧ Q (a.put o.dst v) w') : o.wp c.P a w Q R := by
  unfold Oper.wp
  have hrun : (execOp a.eval o).run c.P w = .ok (.enter f (xs.toList.map a.eval ++ es).toArray) w := by
    have e1 : a.eval (.tmp t) = .func (.func f) #[] es.toArray := hv
    simp only [execOp, hop, resolve, Sem.run_bind, e1, Deferred.ofValue, Sem.run_pure, Result.andThen_ok, invoke]
    rw [show (#[] ++ Array.map a.eval xs ++ es.toArray) = (xs.toList.map a.eval ++ es).toArray by simp, enter_run he]
  rw [hrun]
  refine h.mono ?_
  rintro e w' ⟨v, rfl, hq⟩
  exact hq

theorem stepP_sound (hc : compP c.P true o.op = some mo) (h : stepP c.G ob E mo K) : ∃ s, K s ∧ Yields c ob C o E s := by
  obtain ⟨dst, op, ty, pos, after, guard⟩ := o
  simp only at hc
  unfold compP at hc
  split at hc
  case h_1 x | h_2 x =>
    obtain ⟨p, hp, rfl⟩ := Option.map_eq_some_iff.1 hc
    exact ⟨_, h, .of_run fun a w hw ho => ⟨a.eval x, rfl, orel ho (by simp [Op.operands]) hp⟩⟩
  case h_3 cc x y =>
    split at hc
    · rename_i p q r h1 h2 h3
      injection hc with hc
      subst hc
      simp only [stepP] at h
      split at h
      · rename_i t ht
        cases t with
        | true =>
          refine ⟨_, h.1 rfl, .of_run fun a w hw ho => ⟨a.eval x, ?_, orel ho (by simp [Op.operands]) h2⟩⟩
          have := orel ho (x := cc) (by simp [Op.operands]) h1
          rw [ht] at this
          simp [execOp, relV_bool.1 this, asBool]
        | false =>
          refine ⟨_, h.2 rfl, .of_run fun a w hw ho => ⟨a.eval y, ?_, orel ho (by simp [Op.operands]) h3⟩⟩
          have := orel ho (x := cc) (by simp [Op.operands]) h1
          rw [ht] at this
          simp [execOp, relV_bool.1 this, asBool]
      · exact h.elim
    · cases hc
  case h_4 t x y yt =>
    unfold compShr at hc
    split at hc
    · rename_i k p q hu h1 h2
      injection hc with hc
      subst hc
      obtain ⟨s, hK, hs⟩ := stepShr_sound (c := c) (C := C) (t := t) h
      refine ⟨s, hK, .of_run fun a w hw ho => ?_⟩
      obtain ⟨v, hv, hr⟩ := hs w _ _ _ x y (orel ho (x := x) (by simp [Op.operands]) h1) (orel ho (x := y) (by simp [Op.operands]) h2)
      exact ⟨v, by simp only [execOp, Sem.run_bind] at hv ⊢; rw [hv]; rfl, hr⟩
    · cases hc
  case h_5 bop t x y yt hne =>
    unfold compBin at hc
    split at hc
    · rename_i k p q hu h1 h2
      injection hc with hc
      subst hc
      simp only [stepP, stepBin] at h
      split at h
      · rename_i k1 a1 k2 a2 e1 e2
        obtain ⟨rfl, h⟩ := h
        obtain ⟨s, hK, hs⟩ := stepInt_sound (c := c) (C := C) h
        refine ⟨s, hK, .of_run fun a w hw ho => ?_⟩
        have r1 := orel ho (x := x) (by simp [Op.operands]) h1
        have r2 := orel ho (x := y) (by simp [Op.operands]) h2
        rw [e1] at r1
        rw [e2] at r2
        obtain ⟨v, hv, hr⟩ := hs w (Ms c C) t x y
        rw [← relV_int.1 r1, ← relV_int.1 r2] at hv
        exact ⟨v, by simp only [execOp, Sem.run_bind] at hv ⊢; rw [hv]; rfl, hr⟩
      · rename_i a1 a2 e1 e2
        obtain ⟨s, hK, hs⟩ := stepStr_sound (c := c) (C := C) h
        refine ⟨s, hK, .of_run fun a w hw ho => ?_⟩
        have r1 := orel ho (x := x) (by simp [Op.operands]) h1
        have r2 := orel ho (x := y) (by simp [Op.operands]) h2
        rw [e1] at r1
        rw [e2] at r2
        obtain ⟨v, hv, hr⟩ := hs w (Ms c C) t x y
        rw [← relV_str.1 r1, ← relV_str.1 r2] at hv
        exact ⟨v, by simp only [execOp, Sem.run_bind] at hv ⊢; rw [hv]; rfl, hr⟩
      · exact h.elim
    · rename_i p q hu h1 h2
      injection hc with hc
      subst hc
      simp only [stepP, stepBin] at h
      split at h
      · rename_i k1 a1 k2 a2 e1 e2
        obtain ⟨rfl, h⟩ := h
        obtain ⟨s, hK, hs⟩ := stepInt_sound (c := c) (C := C) h
        refine ⟨s, hK, .of_run fun a w hw ho => ?_⟩
        have r1 := orel ho (x := x) (by simp [Op.operands]) h1
        have r2 := orel ho (x := y) (by simp [Op.operands]) h2
        rw [e1] at r1
        rw [e2] at r2
        obtain ⟨v, hv, hr⟩ := hs w (Ms c C) t x y
        rw [← relV_int.1 r1, ← relV_int.1 r2] at hv
        exact ⟨v, by simp only [execOp, Sem.run_bind] at hv ⊢; rw [hv]; rfl, hr⟩
      · rename_i a1 a2 e1 e2
        obtain ⟨s, hK, hs⟩ := stepStr_sound (c := c) (C := C) h
        refine ⟨s, hK, .of_run fun a w hw ho => ?_⟩
        have r1 := orel ho (x := x) (by simp [Op.operands]) h1
        have r2 := orel ho (x := y) (by simp [Op.operands]) h2
        rw [e1] at r1
        rw [e2] at r2
        obtain ⟨v, hv, hr⟩ := hs w (Ms c C) t x y
        rw [← relV_str.1 r1, ← relV_str.1 r2] at hv
        exact ⟨v, by simp only [execOp, Sem.run_bind] at hv ⊢; rw [hv]; rfl, hr⟩
      · exact h.elim
    · rename_i p q hu h1 h2
      injection hc with hc
      subst hc
      simp only [stepP, stepBB] at h
      split at h
      · rename_i a1 a2 e1 e2
        obtain ⟨s, hK, hs⟩ := stepBool_sound (c := c) (C := C) hu h
        refine ⟨s, hK, .of_run fun a w hw ho => ?_⟩
        have r1 := orel ho (x := x) (by simp [Op.operands]) h1
        have r2 := orel ho (x := y) (by simp [Op.operands]) h2
        rw [e1] at r1
        rw [e2] at r2
        obtain ⟨v, hv, hr⟩ := hs w (Ms c C) x y
        rw [← relV_bool.1 r1, ← relV_bool.1 r2] at hv
        exact ⟨v, by simp only [execOp, Sem.run_bind] at hv ⊢; rw [hv]; rfl, hr⟩
      · exact h.elim
    · rename_i ms p q hu h1 h2
      split at hc
      · split at hc
        · rename_i hms
          injection hc with hc
          subst hc
          simp only [stepP] at h
          obtain ⟨s, hK, hs⟩ := stepIe_sound (c := c) (C := C) (by rw [hms]; exact hu) h
          refine ⟨s, hK, .of_run fun a w hw ho => ?_⟩
          obtain ⟨v, hv, hr⟩ := hs w (Ms c C) x _ _ _ rfl (orel ho (x := x) (by simp [Op.operands]) h1) (orel ho (x := .const .nilIface) (by simp [Op.operands]) h2)
          exact ⟨v, by simp only [execOp, Sem.run_bind] at hv ⊢; rw [hv]; rfl, hr⟩
        · cases hc
      · cases hc
    · rename_i fs p q hu h1 h2
      obtain ⟨neg, ks, rfl⟩ := compSq_ok hc
      obtain ⟨s, hK, hs⟩ := stepSq_sound (c := c) (C := C) hu hc h
      refine ⟨s, hK, .of_run fun a w hw ho => ?_⟩
      obtain ⟨v, hv, hr⟩ := hs w (Ms c C) x y _ _ (orel ho (x := x) (by simp [Op.operands]) h1) (orel ho (x := y) (by simp [Op.operands]) h2)
      exact ⟨v, by simp only [execOp, Sem.run_bind] at hv ⊢; rw [hv]; rfl, hr⟩
    · cases hc
  case h_6 uop t x =>
    obtain ⟨p, hp, rfl⟩ := Option.map_eq_some_iff.1 hc
    obtain ⟨s, hK, hs⟩ := stepUn_sound (C := C) (c := c) h
    refine ⟨s, hK, .of_run fun a w hw ho => ?_⟩
    obtain ⟨v, hv, hr⟩ := hs w _ _ (orel ho (x := x) (by simp [Op.operands]) hp)
    exact ⟨v, by simp only [execOp, Sem.run_bind]; rw [hv]; rfl, hr⟩
  case h_7 x =>
    obtain ⟨p, hp, rfl⟩ := Option.map_eq_some_iff.1 hc
    simp only [stepP] at h
    split at h
    · rename_i y e
      refine ⟨_, h, .of_run fun a w hw ho => ?_⟩
      have r := orel ho (x := x) (by simp [Op.operands]) hp
      rw [e] at r
      obtain ⟨ad, ds, hv, h1, h2⟩ := relV_ptr r
      exact ⟨a.eval x, by simp only [execOp, hv]; rfl, r⟩
    · rename_i r off p' e
      refine ⟨_, h, .of_run fun a w hw ho => ?_⟩
      have r := orel ho (x := x) (by simp [Op.operands]) hp
      rw [e] at r
      have r' := r
      obtain ⟨oc, h1, hv⟩ := r
      exact ⟨a.eval x, by simp only [execOp, hv]; rfl, r'⟩
    · rename_i r es i off p' e
      refine ⟨_, h, .of_run fun a w hw ho => ?_⟩
      have r := orel ho (x := x) (by simp [Op.operands]) hp
      rw [e] at r
      have r' := r
      obtain ⟨oc, g, n, cp, h1, h2, hv⟩ := r
      exact ⟨a.eval x, by simp only [execOp, hv]; rfl, r'⟩
    · rename_i g xs e
      refine ⟨_, h, .of_run fun a w hw ho => ?_⟩
      have r := orel ho (x := x) (by simp [Op.operands]) hp
      rw [e] at r
      have r' := r
      obtain ⟨cs, ⟨_, ds, h1, _⟩, hv⟩ := r
      rw [h1] at hv
      exact ⟨a.eval x, by simp only [execOp, hv]; rfl, r'⟩
    · exact h.elim
  case h_8 t x =>
    rcases compLd_ok hc with ⟨agg, p, rfl, hp, hl⟩ | ⟨n, p, rfl, hp, hl⟩
    · obtain ⟨s, hK, hs⟩ := stepLd_sound (C := C) hl h
      refine ⟨s, hK, .of_run fun a w hw ho => ?_⟩
      obtain ⟨v, hv, hr⟩ := hs w _ hw (orel ho (x := x) (by simp [Op.operands]) hp)
      exact ⟨v, by simp only [execOp, Sem.run_bind]; rw [hv]; rfl, hr⟩
    · obtain ⟨s, hK, hs⟩ := stepLdv_sound (C := C) hl h
      refine ⟨s, hK, .of_run fun a w hw ho => ?_⟩
      obtain ⟨v, hv, hr⟩ := hs w _ hw (orel ho (x := x) (by simp [Op.operands]) hp)
      exact ⟨v, by simp only [execOp, Sem.run_bind]; rw [hv]; rfl, hr⟩
  case h_9 st x f =>
    unfold compFa at hc
    split at hc
    · rename_i fs p hu hp
      split at hc
      · rename_i fd hf
        split at hc
        · rename_i n hn
          injection hc with hc
          subst hc
          simp only [sizeOfT, Option.map_eq_some_iff] at hn
          obtain ⟨inf, hi, hsz⟩ := hn
          obtain ⟨s, hK, hs⟩ := stepFa_sound (c := c) (C := C) hu hf hi (by omega) h
          refine ⟨s, hK, .of_run fun a w hw ho => ?_⟩
          obtain ⟨v, hv, hr⟩ := hs w _ (orel ho (x := x) (by simp [Op.operands]) hp)
          exact ⟨v, by simp only [execOp, Sem.run_bind]; rw [hv]; rfl, hr⟩
        · cases hc
      · cases hc
    · cases hc
  case h_10 t x i =>
    unfold compIa at hc
    split at hc
    · rename_i e p q hu h1 h2
      obtain ⟨n, hn, rfl⟩ := Option.map_eq_some_iff.1 hc
      simp only [sizeOfT, Option.map_eq_some_iff] at hn
      obtain ⟨inf, hi, rfl⟩ := hn
      obtain ⟨s, hK, hs⟩ := stepIa_sound (C := C) hu hi h
      refine ⟨s, hK, .of_run fun a w hw ho => ?_⟩
      obtain ⟨v, hv, hr⟩ := hs w _ _ hw (orel ho (x := x) (by simp [Op.operands]) h1) (orel ho (x := i) (by simp [Op.operands]) h2)
      exact ⟨v, by simp only [execOp, Sem.run_bind]; rw [hv]; rfl, hr⟩
    · rename_i m e p q hu h1 h2
      obtain ⟨n, hn, rfl⟩ := Option.map_eq_some_iff.1 hc
      simp only [sizeOfT, Option.map_eq_some_iff] at hn
      obtain ⟨inf, hi, rfl⟩ := hn
      obtain ⟨s, hK, hs⟩ := stepIar_sound (C := C) hu hi h
      refine ⟨s, hK, .of_run fun a w hw ho => ?_⟩
      obtain ⟨v, hv, hr⟩ := hs w _ _ (orel ho (x := x) (by simp [Op.operands]) h1) (orel ho (x := i) (by simp [Op.operands]) h2)
      exact ⟨v, by simp only [execOp, Sem.run_bind]; rw [hv]; rfl, hr⟩
    · cases hc
  case h_11 t x i =>
    unfold compIx at hc
    split at hc
    · rename_i p q hu h1 h2
      injection hc with hc
      subst hc
      obtain ⟨s, hK, hs⟩ := stepIx_sound (c := c) (C := C) hu h
      refine ⟨s, hK, .of_run fun a w hw ho => ?_⟩
      obtain ⟨v, hv, hr⟩ := hs w _ _ (orel ho (x := x) (by simp [Op.operands]) h1) (orel ho (x := i) (by simp [Op.operands]) h2)
      exact ⟨v, by simp only [execOp, Sem.run_bind]; rw [hv]; rfl, hr⟩
    · cases hc
  case h_12 x i =>
    obtain ⟨p, hp, rfl⟩ := Option.map_eq_some_iff.1 hc
    obtain ⟨s, hK, hs⟩ := stepExt_sound (c := c) (C := C) h
    refine ⟨s, hK, .of_run fun a w hw ho => ?_⟩
    obtain ⟨v, hv, hr⟩ := hs w _ _ (orel ho (x := x) (by simp [Op.operands]) hp)
    exact ⟨v, by simp only [execOp, Sem.run_bind]; rw [hv]; rfl, hr⟩
  case h_13 src dst' x =>
    unfold compConv at hc
    split at hc
    · rename_i e p h1 h2 hp
      split at hc
      · rename_i he
        injection hc with hc
        subst hc
        obtain ⟨s, hK, hs⟩ := stepB2s_sound (c := c) (C := C) h1 he h2 h
        refine ⟨s, hK, .of_run fun a w hw ho => ?_⟩
        obtain ⟨v, hv, hr⟩ := hs w _ hw (orel ho (x := x) (by simp [Op.operands]) hp)
        exact ⟨v, by simp only [execOp, Sem.run_bind]; rw [hv]; rfl, hr⟩
      · cases hc
    · rename_i j k p h1 h2 hp
      injection hc with hc
      subst hc
      obtain ⟨s, hK, hs⟩ := stepConv_sound (c := c) (C := C) h1 h2 h
      refine ⟨s, hK, .of_run fun a w hw ho => ?_⟩
      obtain ⟨v, hv, hr⟩ := hs w _ _ (orel ho (x := x) (by simp [Op.operands]) hp)
      exact ⟨v, by simp only [execOp, Sem.run_bind]; rw [hv]; rfl, hr⟩
    · cases hc
  case h_14 t x lo hi =>
    unfold compSl at hc
    split at hc
    · rename_i p l r hu hp hl hr
      injection hc with hc
      subst hc
      obtain ⟨s, hK, hs⟩ := stepSls_sound (c := c) (C := C) hu h
      refine ⟨s, hK, .of_run fun a w hw ho => ?_⟩
      have side : ∀ (y : Option Operand) (q : Option Opd), opdO y = some q → (∀ z, y = some z → z ∈ (Op.slice t x lo hi none).operands) →
          (∀ z, evOO E q = some z → ∃ v, y.map a.eval = some v ∧ RelV w (Ms c C) C z v) ∧ (evOO E q = none → y.map a.eval = none) := by
        intro y q hq hm
        cases y with
        | none => injection hq with hq; subst hq; exact ⟨fun z hz => (by cases hz), fun _ => rfl⟩
        | some y =>
          obtain ⟨q', hq', rfl⟩ := Option.map_eq_some_iff.1 hq
          refine ⟨fun z hz => ?_, fun hz => (by cases hz)⟩
          injection hz with hz
          subst hz
          exact ⟨_, rfl, orel ho (hm y rfl) hq'⟩
      obtain ⟨l1, l2⟩ := side lo l hl (by rintro z rfl; simp [Op.operands])
      obtain ⟨r1, r2⟩ := side hi r hr (by rintro z rfl; simp [Op.operands])
      obtain ⟨v, hv, hr⟩ := hs w _ _ (lo.map a.eval) (hi.map a.eval) (orel ho (x := x) (by simp [Op.operands]) hp) l1 l2 r1 r2
      exact ⟨v, by simp only [execOp, Sem.run_bind, Option.map_none]; rw [hv]; rfl, hr⟩
    · rename_i e p l r hu hp hl hr
      obtain ⟨n, hn, hc⟩ := Option.map_eq_some_iff.1 hc
      subst hc
      obtain ⟨inf, hinf, rfl⟩ := Option.map_eq_some_iff.1 hn
      obtain ⟨s, hK, hs⟩ := stepSlx_sound (c := c) (C := C) hu hinf h
      refine ⟨s, hK, .of_run fun a w hw ho => ?_⟩
      have side : ∀ (y : Option Operand) (q : Option Opd), opdO y = some q → (∀ z, y = some z → z ∈ (Op.slice t x lo hi none).operands) →
          (∀ z, evOO E q = some z → ∃ v, y.map a.eval = some v ∧ RelV w (Ms c C) C z v) ∧ (evOO E q = none → y.map a.eval = none) := by
        intro y q hq hm
        cases y with
        | none => injection hq with hq; subst hq; exact ⟨fun z hz => (by cases hz), fun _ => rfl⟩
        | some y =>
          obtain ⟨q', hq', rfl⟩ := Option.map_eq_some_iff.1 hq
          refine ⟨fun z hz => ?_, fun hz => (by cases hz)⟩
          injection hz with hz
          subst hz
          exact ⟨_, rfl, orel ho (hm y rfl) hq'⟩
      obtain ⟨l1, l2⟩ := side lo l hl (by rintro z rfl; simp [Op.operands])
      obtain ⟨r1, r2⟩ := side hi r hr (by rintro z rfl; simp [Op.operands])
      obtain ⟨v, hv, hr⟩ := hs w _ (lo.map a.eval) (hi.map a.eval) hw (orel ho (x := x) (by simp [Op.operands]) hp) l1 l2 r1 r2
      exact ⟨v, by simp only [execOp, Sem.run_bind, Option.map_none]; rw [hv]; rfl, hr⟩
    · cases hc
  case h_15 t x lo hi m =>
    unfold compSl0 at hc
    split at hc
    · rename_i e p hu hp
      split at hc
      · rename_i k1 k2 hm
        split at hc
        · rename_i hz
          obtain ⟨n, hn, hc⟩ := Option.map_eq_some_iff.1 hc
          subst hc
          obtain ⟨inf, hinf, rfl⟩ := Option.map_eq_some_iff.1 hn
          injection hm with hm
          subst hm
          obtain ⟨s, hK, hs⟩ := stepSl0_sound (c := c) (C := C) hu hinf h
          refine ⟨s, hK, .of_run fun a w hw ho => ?_⟩
          have hl : lo.map a.eval = none ∨ ∃ k, lo.map a.eval = some (.int k 0) := by
            unfold zero? at hz
            split at hz
            · exact .inl rfl
            · exact .inr ⟨_, rfl⟩
            · cases hz
          obtain ⟨v, hv, hr⟩ := hs w _ (lo.map a.eval) hw (orel ho (x := x) (by simp [Op.operands]) hp) hl k1 k2
          exact ⟨v, by simp only [execOp, Sem.run_bind, Option.map_some]; simp only [Act.eval] at hv ⊢; rw [hv]; rfl, hr⟩
        · cases hc
      · cases hc
    · cases hc
  case h_16 g caps =>
    obtain ⟨ps, hps, rfl⟩ := Option.map_eq_some_iff.1 hc
    simp only [stepP] at h
    split at h
    · rename_i xs hx
      refine ⟨_, h, .of_run fun a w hw ho => ?_⟩
      obtain ⟨hl, hv⟩ := opdL_rel (C := C) (E := E) (a := a) (w := w) caps.toList ps hps (fun t ht => ho t (by simpa [Op.operands] using ht))
      have hcap := capsD_rep (w := w) (M := Ms c C) (C := C) (ps.map (evF E)) (caps.toList.map a.eval) xs hx hl hv
      refine ⟨.func (.func g) #[] (caps.map a.eval), by simp [execOp, Instr.makeFunc], [.func (.func g) #[] (caps.map a.eval)], ⟨rfl, caps.toList.map a.eval, ?_, hcap⟩, rfl⟩
      have : Array.map a.eval caps = (caps.toList.map a.eval).toArray := by apply Array.ext'; simp
      rw [this]
    · exact h.elim
  case h_17 t xs ts =>
    obtain ⟨ps, hps, rfl⟩ := Option.map_eq_some_iff.1 hc
    simp only [if_true] at h
    simp only [stepP] at h
    split at h
    · rename_i g ys hE
      obtain ⟨⟨hen, hcap⟩, ds, rs, h1, h2, h3, h4⟩ := h
      refine ⟨_, h4, fun a w hw ho => ?_⟩
      have hf := ho t (by simp [Op.operands, Call.operands])
      have hE' : E t = .d (.clo g ys) := hE
      rw [hE'] at hf
      obtain ⟨cs, ⟨_, es, rfl, hys⟩, hv0⟩ := hf
      obtain ⟨hl, hv⟩ := opdL_rel xs.toList ps hps (fun t ht => ho t (by simp [Op.operands, Call.operands]; exact .inr (by simpa using ht)))
      have hv0 : a.tmps.getD t Go.undef = .func (.func g) #[] es.toArray := hv0
      refine wp_callV rfl hv0 hen ?_
      refine (callV_sound hw h1 hl hv hys hcap h2 h3).mono ?_
      rintro e w' ⟨v, rfl, hr, hx⟩
      exact ⟨v, rfl, v, rfl, hr, hx⟩
    · exact h.elim
  case h_18 xs ts =>
    unfold compLen at hc
    split at hc
    · rename_i t x
      have fin : ∀ p str, opd x = some p → stepLen ob str (evF E p) K → (if str then c.P.underlying t = some .string else ∃ e, c.P.underlying t = some (.slice e)) →
          ∃ s, K s ∧ Yields c ob C { dst := dst, op := .call { callee := .builtin .len, args := #[x], argTypes := #[t] }, type := ty, pos := pos, after := after, guard := guard } E s := by
        intro p str hp h hu
        obtain ⟨s, hK, hs⟩ := stepLen_sound (C := C) (ty := ty) hu h
        refine ⟨s, hK, .of_run fun a w hw ho => ?_⟩
        obtain ⟨v, hv, hr⟩ := hs w _ hw (orel ho (x := x) (by simp [Op.operands, Call.operands]) hp)
        refine ⟨v, ?_, hr⟩
        simp only [execOp, resolve, Sem.run_bind, Sem.run_pure, Result.andThen_ok, invoke, builtin, List.map_toArray, List.map_cons, List.map_nil]
        rw [hv]; rfl
      split at hc
      · rename_i p hu hp
        injection hc with hc
        subst hc
        exact fin _ _ hp h (by simpa using hu)
      · rename_i e p hu hp
        injection hc with hc
        subst hc
        exact fin _ _ hp h (by simpa using ⟨e, hu⟩)
      · cases hc
    · cases hc
  case h_19 xs ts =>
    unfold compMx at hc
    split at hc
    · rename_i x y
      split at hc
      · rename_i p q h1 h2
        injection hc with hc
        subst hc
        obtain ⟨s, hK, hs⟩ := stepMx_sound (c := c) (C := C) (ts := ts) (ty := ty) h
        refine ⟨s, hK, .of_run fun a w hw ho => ?_⟩
        obtain ⟨v, hv, hr⟩ := hs w _ _ _ (orel ho (x := x) (by simp [Op.operands, Call.operands]) h1) (orel ho (x := y) (by simp [Op.operands, Call.operands]) h2)
        refine ⟨v, ?_, hr⟩
        simp only [if_true] at hv
        simp only [execOp, resolve, Sem.run_bind, Sem.run_pure, Result.andThen_ok, invoke, builtin, List.map_toArray, List.map_cons, List.map_nil]
        rw [hv]; rfl
      · cases hc
    · cases hc
  case h_20 xs ts =>
    unfold compMx at hc
    split at hc
    · rename_i x y
      split at hc
      · rename_i p q h1 h2
        injection hc with hc
        subst hc
        obtain ⟨s, hK, hs⟩ := stepMx_sound (c := c) (C := C) (ts := ts) (ty := ty) h
        refine ⟨s, hK, .of_run fun a w hw ho => ?_⟩
        obtain ⟨v, hv, hr⟩ := hs w _ _ _ (orel ho (x := x) (by simp [Op.operands, Call.operands]) h1) (orel ho (x := y) (by simp [Op.operands, Call.operands]) h2)
        refine ⟨v, ?_, hr⟩
        simp only [Bool.false_eq_true, if_false] at hv
        simp only [execOp, resolve, Sem.run_bind, Sem.run_pure, Result.andThen_ok, invoke, builtin, List.map_toArray, List.map_cons, List.map_nil]
        rw [hv]; rfl
      · cases hc
    · cases hc
  case h_21 f xs ts =>
    unfold compCall at hc
    split at hc
    · rename_i he
      split at hc
      · rename_i ps hps
        injection hc with hc
        simp only [if_true] at hc
        subst hc
        obtain ⟨ds, rs, h1, h2, h3, h4⟩ := h
        refine ⟨_, h4, fun a w hw ho => ?_⟩
        obtain ⟨hl, hv⟩ := opdL_rel xs.toList ps hps (fun t ht => ho t (by simpa [Op.operands, Call.operands] using ht))
        refine wp_call rfl he ?_
        refine (callP_sound hw h1 hl hv h2 h3).mono ?_
        rintro e w' ⟨v, rfl, hr, hx⟩
        exact ⟨v, rfl, v, rfl, hr, hx⟩
      · cases hc
    · cases hc
  case h_22 => cases hc
end
end Go.Pe

/- A region that draws its order: its operations write nothing, so the walk in the order of the text serves every order. -/
namespace Go.Pe
open Go Go.RowKit

def putF (E : Nat → SV) (dst : Option Nat) (s : SV) : Nat → SV :=
  match dst with
  | some t => fun u => if t = u then s else E u
  | none => E

/-- is the operation carried out? -/
def wantS (ops : Array Oper) (o : Oper) (E : Nat → SV) : Option Bool :=
  match o.guard with
  | none => some true
  | some (j, want) => match (ops[j]?).bind (·.dst) with
    | some t => match E t with
      | .d (.bool b) => some (b == want)
      | .undef => some false
      | _ => none
    | none => none

/-- operation o leaves s in its temporary. -/
def YS (c : Ctx) (ob : List Ob) (C : List OC) (ops : Array Oper) (o : Oper) (E : Nat → SV) (s : SV) : Prop :=
  (wantS ops o E = some true ∧ Yields c ob C o E s) ∨ (wantS ops o E = some false ∧ s = .undef)

def stS (c : Ctx) (ob : List Ob) (C : List OC) (ops : Array Oper) (i : Nat) (K : (Nat → SV) → Prop) (E : Nat → SV) : Prop :=
  match ops[i]? with
  | none => K E
  | some o => ∃ s, YS c ob C ops o E s ∧ K (putF E o.dst s)

def wpAnyE (c : Ctx) (ob : List Ob) (C : List OC) (md : Region.Mode) (ops : Array Oper) (Q : (Nat → SV) → Prop) : Nat → Array Bool → (Nat → SV) → Prop
  | 0, listed, E => Region.ready md ops listed = [] ∧ Q E
  | fuel + 1, listed, E =>
    (Region.ready md ops listed = [] → Q E) ∧
    ∀ i ∈ Region.ready md ops listed, stS c ob C ops i (wpAnyE c ob C md ops Q fuel (listed.setIfInBounds i true)) E

/-- what a frame of which E tells is. -/
structure RelE (c : Ctx) (ob : List Ob) (C : List OC) (E : Nat → SV) (a : Act) (w : World) : Prop where
  tmps : a.tmps.size = c.n
  defers : a.defers = []
  env : ∀ t, RelV w (Ms c C) C (E t) (a.tmps.getD t Go.undef)
  wd : RelW c ob C w
  fix : ∀ t, t < c.lo → a.tmps.getD t Go.undef = c.fx t

section
variable {c : Ctx} {ob : List Ob} {C : List OC} {ops : Array Oper} {md : Region.Mode} {E E' : Nat → SV} {a : Act} {w w' : World}

theorem putF_same (E : Nat → SV) (d : Nat) (s : SV) : putF E (some d) s d = s := by simp [putF]
theorem putF_ne (E : Nat → SV) (dst : Option Nat) (s : SV) (t : Nat) (h : dst ≠ some t) : putF E dst s t = E t := by
  cases dst with
  | none => rfl
  | some d => simp only [putF]; rw [if_neg (fun e => h (by rw [e]))]
theorem putF_comm (E : Nat → SV) {x y : Option Nat} (s u : SV) (h : ∀ d, x = some d → y ≠ some d) : putF (putF E x s) y u = putF (putF E y u) x s := by
  funext t
  by_cases hx : x = some t
  · have hy := h t hx
    subst hx
    rw [putF_ne _ _ _ _ hy, putF_same, putF_same]
  · by_cases hy : y = some t
    · subst hy; rw [putF_same, putF_ne _ _ _ _ hx, putF_same]
    · rw [putF_ne _ _ _ _ hy, putF_ne _ _ _ _ hx, putF_ne _ _ _ _ hx, putF_ne _ _ _ _ hy]

theorem RelE.put {dst : Option Nat} {sv : SV} {v : Value} (h : RelE c ob C E a w) (hx : Ext w w') (hd : ∀ d, dst = some d → c.lo ≤ d ∧ d < c.n) (hv : RelV w' (Ms c C) C sv v) : RelE c ob C (putF E dst sv) (a.put dst v) w' where
  tmps := by rw [put_size]; exact h.tmps
  defers := by rw [put_defers]; exact h.defers
  env := fun t => by
    rw [put_getD _ _ _ _ (by rw [h.tmps]; exact fun d e => (hd d e).2)]
    by_cases e : dst = some t
    · subst e; simp only [if_true, putF_same]; exact hv
    · rw [putF_ne _ _ _ _ e]; simp only [e, if_false]; exact (h.env t).ext hx
  wd := h.wd.ext hx
  fix := put_fix h.tmps hd h.fix

theorem wantS_wanted {o : Oper} {b : Bool} (h : RelE c ob C E a w) (hb : wantS ops o E = some b) : Region.wanted o (yielded ops a.tmps) = b := by
  unfold wantS at hb
  unfold Region.wanted
  split at hb
  · rename_i hg; rw [hg]; injection hb
  · rename_i j want hg
    rw [hg]
    simp only []
    split at hb
    · rename_i t ht
      have hv := h.env t
      have hy : yielded ops a.tmps j = match a.tmps[t]? with | some (.bool b) => some b | _ => none := by
        simp only [yielded, ht, Option.bind_some]
        cases a.tmps[t]? with
        | none => rfl
        | some v => cases v <;> rfl
      split at hb
      · rename_i b' hE
        injection hb with hb
        rw [hE] at hv
        have hv := relV_bool.1 hv
        rw [Array.getD_eq_getD_getElem?] at hv
        cases ht2 : a.tmps[t]? with
        | none => rw [ht2] at hv; cases hv
        | some v =>
          rw [ht2] at hv
          simp only [Option.getD_some] at hv
          rw [hy, ht2, hv, ← hb]
          cases b' <;> cases want <;> rfl
      · rename_i hE
        injection hb with hb
        rw [hE] at hv
        have hv : a.tmps.getD t Go.undef = Go.undef := hv
        rw [Array.getD_eq_getD_getElem?] at hv
        rw [hy, ← hb]
        cases ht2 : a.tmps[t]? with
        | none => rfl
        | some v =>
          rw [ht2] at hv
          simp only [Option.getD_some] at hv
          rw [hv]; rfl
      · cases hb
    · cases hb

theorem mem_looks {o : Oper} {t : Nat} (h : Operand.tmp t ∈ o.op.operands) : t ∈ o.looksAt ops :=
  List.mem_append_left _ (List.mem_filterMap.2 ⟨.tmp t, by simpa using h, rfl⟩)

theorem wantS_same {o : Oper} (h : ∀ t ∈ o.looksAt ops, E' t = E t) : wantS ops o E' = wantS ops o E := by
  unfold wantS
  cases hg : o.guard with
  | none => rfl
  | some p =>
    obtain ⟨j, want⟩ := p
    simp only []
    cases hd : (ops[j]?).bind (·.dst) with
    | none => rfl
    | some t =>
      simp only []
      rw [h t (by unfold Oper.looksAt; rw [hg]; simp [hd])]

theorem YS.same {o : Oper} {s : SV} (h : YS c ob C ops o E s) (hs : ∀ t ∈ o.looksAt ops, E' t = E t) : YS c ob C ops o E' s := by
  unfold YS
  rw [wantS_same hs]
  rcases h with ⟨h1, h2⟩ | h
  · refine .inl ⟨h1, fun a w hw ho => h2 a w hw fun t ht => ?_⟩
    rw [← hs t (mem_looks ht)]
    exact ho t ht
  · exact .inr h

theorem stS_mono {i : Nat} {K K' : (Nat → SV) → Prop} (h : ∀ E, K E → K' E) (hh : stS c ob C ops i K E) : stS c ob C ops i K' E := by
  unfold stS at *
  split
  · rename_i hi; simp only [hi] at hh; exact h _ hh
  · rename_i o hi
    simp only [hi] at hh
    obtain ⟨s, h1, h2⟩ := hh
    exact ⟨s, h1, h _ h2⟩

theorem stS_put {j : Nat} {oi oj : Oper} {s : SV} (hj : ops[j]? = some oj) (hap : oi.apart ops oj = true) {K : (Nat → SV) → Prop} (hy : YS c ob C ops oi E s) (h : stS c ob C ops j K (putF E oi.dst s)) :
    stS c ob C ops j (fun E' => YS c ob C ops oi E' s ∧ K (putF E' oi.dst s)) E := by
  obtain ⟨h1, h2, h3⟩ := Oper.apart_spec hap
  unfold stS at *
  simp only [hj] at *
  obtain ⟨u, hu, hK⟩ := h
  refine ⟨u, hu.same fun t ht => (putF_ne _ _ _ _ fun e => h1 t e ht).symm, hy.same fun t ht => putF_ne _ _ _ _ fun e => h3 t e ht, ?_⟩
  rw [← putF_comm E s u h2]
  exact hK

theorem YS.stS {i : Nat} {o : Oper} {s : SV} (hi : ops[i]? = some o) (hy : YS c ob C ops o E s) {K : (Nat → SV) → Prop} (h : K (putF E o.dst s)) : Pe.stS c ob C ops i K E := by
  unfold Pe.stS
  simp only [hi]
  exact ⟨s, hy, h⟩

theorem wpAnyE_first {Q : (Nat → SV) → Prop} {i : Nat} {oi : Oper} {s : SV} (hi : ops[i]? = some oi) :
    ∀ (fuel : Nat) (listed : Array Bool) (E : Nat → SV),
      (∀ (j : Nat) (oj : Oper), ops[j]? = some oj → j ≠ i → listed.getD j true = false → (∀ e ∈ oj.after, Region.binds md e = true → e.on ≠ i) → oi.apart ops oj = true) →
      i ∈ Region.ready md ops listed → YS c ob C ops oi E s →
      wpAnyE c ob C md ops Q fuel (listed.setIfInBounds i true) (putF E oi.dst s) → wpAnyE c ob C md ops Q (fuel + 1) listed E := by
  intro fuel
  induction fuel with
  | zero =>
    intro listed E _ hr hy H
    refine ⟨fun h => (by rw [h] at hr; cases hr), fun j hj => ?_⟩
    by_cases hji : j = i
    · subst hji; exact hy.stS hi H
    · have := ready_mono hj hji
      rw [H.1] at this
      cases this
  | succ fuel ih =>
    intro listed E hfree hr hy H
    refine ⟨fun h => (by rw [h] at hr; cases hr), fun j hj => ?_⟩
    by_cases hji : j = i
    · subst hji; exact hy.stS hi H
    · have h1 := H.2 j (ready_mono hj hji)
      obtain ⟨hjun, oj, hoj, hall⟩ := mem_ready.1 hj
      have hnot : ∀ e ∈ oj.after, Region.binds md e = true → e.on ≠ i := fun e he hb heq => by
        have h1 := hall e he hb
        have h0 := (mem_ready.1 hr).1
        rw [heq] at h1
        rcases Nat.lt_or_ge i listed.size with h' | h'
        · simp [h'] at h0 h1; rw [h0] at h1; cases h1
        · simp [Array.getElem?_eq_none h'] at h1
      have h2 := stS_put hoj (hfree j oj hoj hji hjun hnot) hy h1
      have hfree' : ∀ (k : Nat) (ok : Oper), ops[k]? = some ok → k ≠ i → (listed.setIfInBounds j true).getD k true = false →
          (∀ e ∈ ok.after, Region.binds md e = true → e.on ≠ i) → oi.apart ops ok = true := fun k ok hk hki hun hno => by
        refine hfree k ok hk hki ?_ hno
        by_cases hjk : j = k
        · subst hjk; exact hjun
        · rw [getD_set_ne true hjk] at hun; exact hun
      refine stS_mono (fun E' h3 => ih (listed.setIfInBounds j true) E' hfree' (ready_mono hr (Ne.symm hji)) h3.1 ?_) h2
      rw [Array.setIfInBounds_comm _ _ hji]
      exact h3.2

/-- the walk in the order of the text. -/
def wpLex (c : Ctx) (ob : List Ob) (C : List OC) (ops : Array Oper) (Q : (Nat → SV) → Prop) : List Oper → (Nat → SV) → Prop
  | [], E => Q E
  | o :: rest, E => ∃ s, YS c ob C ops o E s ∧ wpLex c ob C ops Q rest (putF E o.dst s)

theorem wpAnyE_lex {Q : (Nat → SV) → Prop} : ∀ (l : List Oper) (k : Nat) (listed : Array Bool) (E : Nat → SV), (∀ j, l[j]? = ops[k + j]?) →
    Region.lexFrom md ops l.length k listed = true → wpLex c ob C ops Q l E → wpAnyE c ob C md ops Q l.length listed E
  | [], _, _, _, _, hB, h => ⟨by simpa [Region.lexFrom] using hB, h⟩
  | o :: l, k, listed, E, hl, hB, h => by
    have h0 : ops[k]? = some o := by simpa using (hl 0).symm
    simp only [List.length_cons, Region.lexFrom, Bool.and_eq_true] at hB
    obtain ⟨⟨hr, hf⟩, hB'⟩ := hB
    obtain ⟨s, hy, hK⟩ := h
    exact wpAnyE_first h0 l.length listed E (Region.free_spec h0 hf) (by simpa using hr) hy
      (wpAnyE_lex l (k + 1) _ _ (fun j => by have := hl (j + 1); simpa [Nat.add_assoc, Nat.add_comm 1 j] using this) hB' hK)

/-- in a frame of which E tells, the operation goes through. -/
theorem wpOp_of_stS {i : Nat} {K : (Nat → SV) → Prop} {K' : Act → World → Prop} {Q : Exit → Act → World → Prop} (hd : ∀ (j : Nat) (o : Oper) (d : Nat), ops[j]? = some o → o.dst = some d → c.lo ≤ d ∧ d < c.n)
    (h : ∀ E a w, RelE c ob C E a w → K E → K' a w) (hr : RelE c ob C E a w) (hh : stS c ob C ops i K E) : wpOp c.P ops Q i K' a w := by
  unfold stS at hh
  unfold wpOp
  split
  · rename_i hi; simp only [hi] at hh; exact h _ _ _ hr hh
  · rename_i o hi
    simp only [hi] at hh
    obtain ⟨s, hy, hK⟩ := hh
    rcases hy with ⟨h1, h2⟩ | ⟨h1, rfl⟩
    · rw [wantS_wanted hr h1]
      simp only [if_true]
      left
      have h3 := h2 a w hr.wd (fun t _ => hr.env t)
      unfold Oper.wp at h3 ⊢
      generalize (execOp a.eval o).run c.P w = r at *
      have fin : ∀ a' w', (∃ v, a' = a.put o.dst v ∧ RelV w' (Ms c C) C s v ∧ Ext w w') → K' a' w' := by
        rintro a' w' ⟨v, rfl, h4, h5⟩
        exact h _ _ _ (hr.put h5 (fun d hd' => hd i o d hi hd') h4) hK
      cases r with
      | ok n w' =>
        cases n <;> simp only [Oper.upon] at h3 ⊢ <;> first
          | exact fin _ _ h3
          | exact h3.elim
          | skip
        · exact h3.mono fun e w'' he => by
            cases e with
            | returned v => exact fin _ _ he
            | panicked ch => exact he.elim
            | outgrown => obtain ⟨_, _, he⟩ := he; exact he.elim
        · exact h3.mono fun v w'' he => fin _ _ he
      | halt x w' =>
        cases x <;> simp only [Oper.upon] at h3 <;> exact h3.elim
    · rw [wantS_wanted hr h1]
      simp only [Bool.false_eq_true, if_false]
      exact h _ _ _ (hr.put (sv := .undef) (Ext.refl w) (fun d hd' => hd i o d hi hd') rfl) hK

theorem wpAny_of_E {Q : (Nat → SV) → Prop} {Q' : Exit → Act → World → Prop} (hd : ∀ (j : Nat) (o : Oper) (d : Nat), ops[j]? = some o → o.dst = some d → c.lo ≤ d ∧ d < c.n) (hQ : ∀ E a w, RelE c ob C E a w → Q E → Q' .normal a w) :
    ∀ (fuel : Nat) (listed : Array Bool) (E : Nat → SV) (a : Act) (w : World), RelE c ob C E a w → wpAnyE c ob C md ops Q fuel listed E → wpAny c.P md ops Q' fuel listed a w
  | 0, _, _, _, _, hr, h => ⟨h.1, hQ _ _ _ hr h.2⟩
  | fuel + 1, _, _, _, _, hr, h => ⟨fun h0 => hQ _ _ _ hr (h.1 h0), fun i hi => wpOp_of_stS hd (fun E a w hr hK => wpAny_of_E hd hQ fuel _ E a w hr hK) hr (h.2 i hi)⟩

theorem wp_region_draw_E {id : Nat} {Q : Exit → Act → World → Prop} {Q' : (Nat → SV) → Prop} (hm : c.P.follows .mixedOrders = true) (hB : Region.lexB .any ops = true) (hd : ∀ (j : Nat) (o : Oper) (d : Nat), ops[j]? = some o → o.dst = some d → c.lo ≤ d ∧ d < c.n)
    (hr : RelE c ob C E a w) (h : wpLex c ob C ops Q' ops.toList E) (hQ : ∀ E a w, RelE c ob C E a w → Q' E → Q .normal a w) : (Code.region id ops true).wp c.P Q a w := by
  simp only [Region.lexB, Bool.and_eq_true] at hB
  refine wp_region_any hm (wpAny_of_E (Q := Q') hd hQ _ _ E _ _ ?_ ?_)
  · have hx : Ext w { w with drawn := w.drawn + 1 } := ⟨rfl, rfl, rfl, Nat.le_refl _, fun _ _ => rfl⟩
    exact ⟨hr.tmps, hr.defers, fun t => (hr.env t).ext hx, hr.wd.ext hx, hr.fix⟩
  · have := wpAnyE_lex (c := c) (ob := ob) (C := C) (md := .any) ops.toList 0 (Array.replicate ops.size false) E (by simp) (by simpa using hB.2) h
    simpa using this
end
end Go.Pe
