/-
  A layer for walks of Go functions over their compact code (part D): data and where they lie, contracts, the operations, the walk of code. Own work, the same in every claim of this set.
-/
import Derived.Test.YthdicoonoboakaaDoorPeC
import Derived.ProofKit
import Derived.Deep.Slices
import Derived.Lib.AtoiErrMem
import Derived.RangeFuncNested
import Derived.RangeFuncCalls
import Derived.OrdersIn
import Derived.OwnWalkIn
namespace Go.Pe
open Go Go.RowKit
def onO {α : Type} (x : Option α) (K : α → Prop) : Prop := ∃ y, x = some y ∧ K y
def onC (c : Prop) (K : Prop) : Prop := c ∧ K
def onI (k : IntKind) (n : Int) (K : SV → Prop) : Prop := (InR k n ∧ K (.d (.int k n))) ∨ K (.d (.int k (k.wrap n)))
theorem onO_some {α : Type} {y : α} {K : α → Prop} : onO (some y) K = K y := by simp [onO]
theorem onC_true {K : Prop} : onC True K = K := by simp [onC]
theorem onC_i {c K : Prop} (h : c) (k : K) : onC c K := ⟨h, k⟩
theorem onI_bare {k : IntKind} {n : Int} {K : SV → Prop} (h : InR k n) (hk : K (.d (.int k n))) : onI k n K := .inl ⟨h, hk⟩
theorem onI_wrap {k : IntKind} {n : Int} {K : SV → Prop} (hk : K (.d (.int k (k.wrap n)))) : onI k n K := .inr hk
@[congr] theorem onO_congr {α : Type} {x x' : Option α} {K : α → Prop} (h : x = x') : onO x K = onO x' K := by rw [h]
@[congr] theorem onC_congr {c c' : Prop} {K : Prop} (h : c = c') : onC c K = onC c' K := by rw [h]
@[congr] theorem onI_congr {k : IntKind} {n n' : Int} {K : SV → Prop} (h : n = n') : onI k n K = onI k n' K := by rw [h]
def boxOf (o : List Ob) (r : Nat) : Option D := match o[r]? with
  | some (.box z) => some z
  | _ => none
def valOf (o : List Ob) (r : Nat) : Option D := match o[r]? with
  | some (.val z) => some z
  | _ => none
def slOf (o : List Ob) (r es : Nat) : Option D := match o[r]? with
  | some (.val (.sl true es' xs)) => if es' = es then some xs else none
  | _ => none
theorem boxOf_iff {o : List Ob} {r : Nat} {z : D} : boxOf o r = some z ↔ o[r]? = some (.box z) := by
  unfold boxOf; split
  · rename_i h; rw [h]; simp
  · rename_i h; constructor
    · intro h; cases h
    · intro h2; exact absurd h2 (h z)
theorem valOf_iff {o : List Ob} {r : Nat} {z : D} : valOf o r = some z ↔ o[r]? = some (.val z) := by
  unfold valOf; split
  · rename_i h; rw [h]; simp
  · rename_i h; constructor
    · intro h; cases h
    · intro h2; exact absurd h2 (h z)
theorem slOf_iff {o : List Ob} {r es : Nat} {z : D} : slOf o r es = some z ↔ o[r]? = some (.val (.sl true es z)) := by
  unfold slOf; split
  · rename_i es' xs h; rw [h]
    split
    · rename_i e; subst e; simp
    · rename_i e; simp [e]
  · rename_i h; constructor
    · intro h; cases h
    · intro h2; exact absurd h2 (h _ _)
def slwOf (o : List Ob) (r es : Nat) : Option (Bool × D) := match o[r]? with
  | some (.val (.sl ow es' xs)) => if es' = es then some (ow, xs) else none
  | _ => none
theorem slwOf_iff {o : List Ob} {r es : Nat} {ow : Bool} {z : D} : slwOf o r es = some (ow, z) ↔ o[r]? = some (.val (.sl ow es z)) := by
  unfold slwOf; split
  · rename_i ow' es' xs h; rw [h]
    split
    · rename_i e; subst e; simp
    · rename_i e; simp [e]
  · rename_i h; constructor
    · intro h; cases h
    · intro h2; exact absurd h2 (h _ _ _)
section
variable {P : PG} {s : St} {o : List Ob} {E : Nat → SV} {K : SV → Prop} {KK : SV → St → Prop}
theorem stepO_t {mo : MO} : stepO P s true mo KK = stepE P s mo KK := propext Iff.rfl
theorem stepO_f {mo : MO} : stepO P s false mo KK = stepP P s.o (look s.e) mo fun sv => KK sv s := propext Iff.rfl
theorem stepP_mov {x : Opd} : stepP P o E (.mov x) K = K (evF E x) := propext Iff.rfl
def onPick (c a b : SV) (K : SV → Prop) : Prop := match c with
  | .d (.bool t) => (t = true → K a) ∧ (t = false → K b)
  | _ => False
theorem stepP_pick {c x y : Opd} : stepP P o E (.pick c x y) K = onPick (evF E c) (evF E x) (evF E y) K := propext Iff.rfl
theorem onPick_true {a b : SV} : onPick (.d (.bool true)) a b K = K a := by simp [onPick]
theorem onPick_false {a b : SV} : onPick (.d (.bool false)) a b K = K b := by simp [onPick]
theorem onPick_split {a b : SV} {t : Bool} (h1 : t = true → K a) (h2 : t = false → K b) : onPick (.d (.bool t)) a b K := ⟨h1, h2⟩
@[congr] theorem onPick_congr {c c' a a' b b' : SV} (h : c = c') (h1 : a = a') (h2 : b = b') : onPick c a b K = onPick c' a' b' K := by rw [h, h1, h2]
theorem stepP_bin {op : BinOp} {x y : Opd} : stepP P o E (.bin op x y) K = stepBin op (evF E x) (evF E y) K := propext Iff.rfl
theorem stepP_bb {op : BinOp} {x y : Opd} : stepP P o E (.bb op x y) K = stepBB op (evF E x) (evF E y) K := propext Iff.rfl
theorem stepP_ie {op : BinOp} {x y : Opd} : stepP P o E (.ie op x y) K = stepIe op (evF E x) (evF E y) K := propext Iff.rfl
theorem stepP_un {op : UnOp} {x : Opd} : stepP P o E (.un op x) K = stepUn op (evF E x) K := propext Iff.rfl
def onNck (x : SV) (K : SV → Prop) : Prop := match x with
  | .d (.ptr y) => K (.d (.ptr y))
  | .ptr r off p => K (.ptr r off p)
  | .el r es i off p => K (.el r es i off p)
  | .d (.clo g xs) => K (.d (.clo g xs))
  | _ => False
theorem stepP_nck {x : Opd} : stepP P o E (.nck x) K = onNck (evF E x) K := propext Iff.rfl
theorem stepP_ld {agg : Option Nat} {x : Opd} : stepP P o E (.ld agg x) K = stepLd o agg (evF E x) K := propext Iff.rfl
theorem stepP_fa {f off : Nat} {x : Opd} : stepP P o E (.fa f off x) K = stepFa f off (evF E x) K := propext Iff.rfl
theorem stepP_ia {es : Nat} {x i : Opd} : stepP P o E (.ia es x i) K = stepIa o es (evF E x) (evF E i) K := propext Iff.rfl
theorem stepP_ix {x i : Opd} : stepP P o E (.ix x i) K = stepIx (evF E x) (evF E i) K := propext Iff.rfl
theorem stepP_len {b : Bool} {x : Opd} : stepP P o E (.len b x) K = stepLen o b (evF E x) K := propext Iff.rfl
theorem stepP_ext {x : Opd} {i : Nat} : stepP P o E (.ext x i) K = stepExt (evF E x) i K := propext Iff.rfl
theorem stepP_conv {k : IntKind} {x : Opd} : stepP P o E (.conv k x) K = stepConv k (evF E x) K := propext Iff.rfl
theorem stepP_sls {x : Opd} {lo hi : Option Opd} : stepP P o E (.sls x lo hi) K = stepSls (evF E x) (evOO E lo) (evOO E hi) K := propext Iff.rfl
theorem stepP_mx {b : Bool} {x y : Opd} : stepP P o E (.mx b x y) K = stepMx b (evF E x) (evF E y) K := propext Iff.rfl
def evL (E : Nat → SV) : List Opd → List SV
  | [] => []
  | p :: ps => evF E p :: evL E ps
theorem evL_eq (ps : List Opd) : evL E ps = ps.map (evF E) := by
  induction ps with
  | nil => rfl
  | cons p ps ih => simp [evL, ih]
def onCallP (P : PG) (o : List Ob) (f : FuncId) (as : List SV) (K : SV → Prop) : Prop :=
  ∃ ds rs, argsOf o as ds ∧ Fn P f ds (fun qs => qs = rs) ∧ (as.all isD = true ∨ rs.all D.allOwn = true) ∧ K (resSV (rs.map D.unown))
theorem stepP_callP {f : FuncId} {args : List Opd} : stepP P o E (.callP f args) K = onCallP P o f (evL E args) K := by rw [evL_eq]; rfl
@[congr] theorem onCallP_congr {f : FuncId} {as as' : List SV} (h : as = as') : onCallP P o f as K = onCallP P o f as' K := by rw [h]
def onCall (P : PG) (s : St) (f : FuncId) (args : List Opd) (as : List SV) (K : SV → St → Prop) : Prop := as = argsS s.e args → stepE P s (.call f args) K
theorem stepE_call {f : FuncId} {args : List Opd} : stepE P s (.call f args) KK = onCall P s f args (argsS s.e args) KK := propext ⟨fun h _ => h, fun h => h rfl⟩
@[congr] theorem onCall_congr {f : FuncId} {args : List Opd} {as as' : List SV} {s' : St} (h2 : s = s') (h : as = as') : onCall P s f args as KK = onCall P s' f args as' KK := by rw [h, h2]
def argD (o : List Ob) : SV → Option D
  | .d x => some x
  | .own r => (valOf o r).map D.unown
  | .vw r => match boxOf o r with
    | some (.st xs) => some (.st xs.unown)
    | _ => none
  | _ => none
def argsD (o : List Ob) : List SV → Option (List D)
  | [] => some []
  | s :: ss => match argD o s, argsD o ss with
    | some x, some xs => some (x :: xs)
    | _, _ => none
theorem argD_of {s : SV} {x : D} (h : argD o s = some x) : argOf o s x := by
  unfold argD at h
  split at h
  · injection h with h; exact h.symm
  · rename_i r
    obtain ⟨y, h1, h2⟩ := Option.map_eq_some_iff.1 h
    exact ⟨y, valOf_iff.1 h1, h2.symm⟩
  · rename_i r
    split at h
    · rename_i xs h1
      injection h with h
      exact ⟨xs, boxOf_iff.1 h1, h.symm⟩
    · cases h
  · cases h
theorem argsD_of : ∀ {ss : List SV} {xs : List D}, argsD o ss = some xs → argsOf o ss xs
  | [], xs, h => by injection h with h; exact h.symm
  | s :: ss, xs, h => by
    unfold argsD at h
    split at h
    · rename_i x ys h1 h2
      injection h with h
      exact ⟨x, ys, h.symm, argD_of h1, argsD_of h2⟩
    · cases h
theorem callP_det {f : FuncId} {as : List SV} {ds rs : List D} (hf : Fn P f ds (fun qs => qs = rs)) (ha : argsD o as = some ds) (hd : (as.all isD || rs.all D.allOwn) = true) (hk : K (resSV (rs.map D.unown))) : onCallP P o f as K :=
  ⟨ds, rs, argsD_of ha, hf, by simpa using hd, hk⟩
theorem call_det {f : FuncId} {args : List Opd} {as : List SV} {ds rs : List D} (hf : Fn P f ds (fun qs => qs = rs)) (ha : argsD s.o as = some ds) (hd : (as.all isD || rs.all D.allOwn) = true) (hk : KK (resS (addRes rs s.o).1) ⟨s.e, (addRes rs s.o).2⟩) : onCall P s f args as KK := by
  intro e
  subst e
  exact ⟨_, _, WeakX.refl s, fun _ => .inl ⟨ds, _, argsD_of ha, hf, fun qs h => by subst h; exact ⟨by simpa using hd, hk⟩⟩⟩
theorem call_rel {f : FuncId} {args : List Opd} {as : List SV} {ds : List D} {R : List D → Prop} (hf : Fn P f ds R) (ha : argsD s.o as = some ds) (hk : ∀ rs, R rs → (as.all isD = true ∨ rs.all D.allOwn = true) ∧ KK (resS (addRes rs s.o).1) ⟨s.e, (addRes rs s.o).2⟩) : onCall P s f args as KK := by
  intro e
  subst e
  exact ⟨_, _, WeakX.refl s, fun _ => .inl ⟨ds, R, argsD_of ha, hf, hk⟩⟩
theorem callM_rel {f : FuncId} {args : List Opd} {bx : Bool} {r : Nat} {ss : List SV} {x : D} {ds : List D} {R : D → List D → Prop} (hf : FnM P f bx x ds R) (hor : s.o[r]? = some (mkOb bx x)) (ha : argsD s.o ss = some ds) (hd : ss.all isD = true)
    (hk : ∀ y rs, R y rs → KK (resS (addRes rs (s.o.set r (mkOb bx y))).1) ⟨kill (refV r) s.e, (addRes rs (s.o.set r (mkOb bx y))).2⟩) : onCall P s f args (firstS bx r :: ss) KK := by
  intro e
  exact ⟨_, _, WeakX.refl s, fun _ => .inr (.inl ⟨bx, r, x, ss, ds, R, e.symm, hor, argsD_of ha, hd, hf, hk⟩)⟩
theorem call_frz {f : FuncId} {args : List Opd} {as : List SV} (q : Nat) (h : onCall P (frz1 q s) f args (argsS (frz1 q s).e args) KK) : onCall P s f args as KK := by
  intro _
  obtain ⟨α, S, hS, h⟩ := h rfl
  exact ⟨_, _, (WeakX.frz q s).sig fun _ => hS, fun u => h u.2⟩
theorem int_add {k : IntKind} {a b : Int} : stepInt .add k a b K = onI k (a + b) K := propext Iff.rfl
theorem int_sub {k : IntKind} {a b : Int} : stepInt .sub k a b K = onI k (a - b) K := propext Iff.rfl
theorem int_mul {k : IntKind} {a b : Int} : stepInt .mul k a b K = onI k (a * b) K := propext Iff.rfl
theorem int_quo {k : IntKind} {a b : Int} : stepInt .quo k a b K = onC (b ≠ 0) (onI k (a.tdiv b) K) := propext Iff.rfl
theorem int_rem {k : IntKind} {a b : Int} : stepInt .rem k a b K = onC (b ≠ 0) (K (.d (.int k (a.tmod b)))) := propext Iff.rfl
theorem int_and {k : IntKind} {a b : Int} : stepInt .and k a b K = K (.d (.int k (bits .and k a b))) := propext Iff.rfl
theorem int_or {k : IntKind} {a b : Int} : stepInt .or k a b K = K (.d (.int k (bits .or k a b))) := propext Iff.rfl
theorem int_xor {k : IntKind} {a b : Int} : stepInt .xor k a b K = K (.d (.int k (bits .xor k a b))) := propext Iff.rfl
theorem int_eql {k : IntKind} {a b : Int} : stepInt .eql k a b K = K (.d (.bool (decide (a = b)))) := propext Iff.rfl
theorem int_neq {k : IntKind} {a b : Int} : stepInt .neq k a b K = K (.d (.bool (!decide (a = b)))) := propext Iff.rfl
theorem int_lss {k : IntKind} {a b : Int} : stepInt .lss k a b K = K (.d (.bool (decide (a < b)))) := propext Iff.rfl
theorem int_leq {k : IntKind} {a b : Int} : stepInt .leq k a b K = K (.d (.bool (decide (a ≤ b)))) := propext Iff.rfl
theorem int_gtr {k : IntKind} {a b : Int} : stepInt .gtr k a b K = K (.d (.bool (decide (b < a)))) := propext Iff.rfl
theorem int_geq {k : IntKind} {a b : Int} : stepInt .geq k a b K = K (.d (.bool (decide (b ≤ a)))) := propext Iff.rfl
theorem bin_int {op : BinOp} {k : IntKind} {a b : Int} : stepBin op (.d (.int k a)) (.d (.int k b)) K = stepInt op k a b K := by simp [stepBin]
theorem bin_str {op : BinOp} {a b : List UInt8} : stepBin op (.d (.str a)) (.d (.str b)) K = stepStr op a b K := propext Iff.rfl
theorem str_add {a b : List UInt8} : stepStr .add a b K = onC (a.length + b.length ≤ 9223372036854775807) (K (.d (.str (a ++ b)))) := propext Iff.rfl
theorem str_eql {a b : List UInt8} : stepStr .eql a b K = K (.d (.bool (decide (a = b)))) := propext Iff.rfl
theorem str_neq {a b : List UInt8} : stepStr .neq a b K = K (.d (.bool (!decide (a = b)))) := propext Iff.rfl
theorem str_lss {a b : List UInt8} : stepStr .lss a b K = K (.d (.bool (Op.bytesLess a b))) := propext Iff.rfl
theorem bb_eql {a b : Bool} : stepBB .eql (.d (.bool a)) (.d (.bool b)) K = K (.d (.bool (a == b))) := propext Iff.rfl
theorem bb_neq {a b : Bool} : stepBB .neq (.d (.bool a)) (.d (.bool b)) K = K (.d (.bool (!(a == b)))) := propext Iff.rfl
theorem ie_eql {a : Bool} : stepIe .eql (.d (.err a)) (.d (.err true)) K = K (.d (.bool a)) := propext Iff.rfl
theorem ie_neq {a : Bool} : stepIe .neq (.d (.err a)) (.d (.err true)) K = K (.d (.bool (!a))) := propext Iff.rfl
theorem un_not {b : Bool} : stepUn .not (.d (.bool b)) K = K (.d (.bool (!b))) := propext Iff.rfl
theorem un_neg {k : IntKind} {n : Int} : stepUn .neg (.d (.int k n)) K = onI k (-n) K := propext Iff.rfl
theorem conv_eq {k k' : IntKind} {n : Int} : stepConv k (.d (.int k' n)) K = onI k n K := propext Iff.rfl
theorem mx_eq {k k' : IntKind} {b : Bool} {n m : Int} : stepMx b (.d (.int k n)) (.d (.int k' m)) K = K (.d (.int k (if b then max n m else min n m))) := propext Iff.rfl
theorem len_str {a : List UInt8} : stepLen o true (.d (.str a)) K = K (.d (.int .i64 a.length)) := propext Iff.rfl
theorem len_sl {ow : Bool} {es : Nat} {xs : D} : stepLen o false (.d (.sl ow es xs)) K = K (.d (.int .i64 xs.len)) := propext Iff.rfl
theorem len_nil : stepLen o false .nil K = K (.d (.int .i64 0)) := propext Iff.rfl
def lenOf (o : List Ob) (r : Nat) : Option Nat := match valOf o r with
  | some (.sl _ _ xs) => some xs.len
  | _ => none
theorem len_own {r : Nat} : stepLen o false (.own r) K = onO (lenOf o r) fun n => K (.d (.int .i64 n)) := by
  apply propext
  simp only [stepLen, onO, lenOf]
  constructor
  · rintro ⟨es, xs, ow, h, hk⟩
    exact ⟨xs.len, by rw [valOf_iff.2 h], hk⟩
  · rintro ⟨n, h, hk⟩
    split at h
    · rename_i ow es xs h1
      injection h with h
      subst h
      exact ⟨es, xs, ow, valOf_iff.1 h1, hk⟩
    · cases h
theorem ix_eq {b : List UInt8} {k : IntKind} {n : Int} : stepIx (.d (.str b)) (.d (.int k n)) K = onC (0 ≤ n) (onO (b[n.toNat]?) fun u => K (.d (.int .u8 (u.toNat : Int)))) := by
  apply propext
  simp only [stepIx, onC, onO]
  constructor
  · rintro ⟨u, h1, h2, h3⟩; exact ⟨h1, u, h2, h3⟩
  · rintro ⟨h1, u, h2, h3⟩; exact ⟨u, h1, h2, h3⟩
theorem ia_d {es es' : Nat} {ow : Bool} {xs : D} {k : IntKind} {n : Int} : stepIa o es (.d (.sl ow es' xs)) (.d (.int k n)) K = onC (es' = es) (onC (0 ≤ n) (onO (xs.nth n.toNat) fun y => K (.d (.ptr y)))) := by
  apply propext
  simp only [stepIa, onC, onO]
  constructor
  · rintro ⟨h, u, h1, h2, h3⟩; exact ⟨h, h1, u, h2, h3⟩
  · rintro ⟨h, h1, u, h2, h3⟩; exact ⟨h, u, h1, h2, h3⟩
theorem ia_own {r es : Nat} {k : IntKind} {n : Int} : stepIa o es (.own r) (.d (.int k n)) K = onO (slwOf o r es) fun p => onC (0 ≤ n) (onO (p.2.nth n.toNat) fun y => K (elS p.1 r es n.toNat y)) := by
  apply propext
  simp only [stepIa, onC, onO]
  constructor
  · rintro ⟨ow, xs, y, h1, h2, h3, h4⟩; exact ⟨(ow, xs), slwOf_iff.2 h1, h2, y, h3, h4⟩
  · rintro ⟨⟨ow, xs⟩, h1, h2, y, h3, h4⟩; exact ⟨ow, xs, y, slwOf_iff.1 h1, h2, h3, h4⟩
theorem rd_int {k : IntKind} {n : Int} : stepRd o none (.int k n) K = K (.d (.int k n)) := by simp [stepRd, D.noOwn]
theorem rd_bool {b : Bool} : stepRd o none (.bool b) K = K (.d (.bool b)) := by simp [stepRd, D.noOwn]
theorem rd_str {b : List UInt8} : stepRd o none (.str b) K = K (.d (.str b)) := by simp [stepRd, D.noOwn]
theorem rd_err {b : Bool} : stepRd o none (.err b) K = K (.d (.err b)) := by simp [stepRd, D.noOwn]
theorem rd_sl {b : Bool} {es : Nat} {xs : D} : stepRd o none (.sl b es xs) K = onC ((D.sl b es xs).noOwn = true) (K (.d (.sl b es xs))) := propext Iff.rfl
def tagOf (o : List Ob) (q : Nat) : Option (Nat × Value) := match o[q]? with
  | some (.tag r v) => some (r, v)
  | _ => none
theorem tagOf_iff {o : List Ob} {q r : Nat} {v : Value} : tagOf o q = some (r, v) ↔ o[q]? = some (.tag r v) := by
  unfold tagOf
  constructor
  · intro h
    split at h
    · rename_i r' v' h1; injection h with h; injection h with h2 h3; subst h2 h3; exact h1
    · cases h
  · intro h; rw [h]
theorem rd_lnk {q : Nat} {v : Value} : stepRd o none (.lnk q v) K = onO (tagOf o q) fun p => onC (p.2 = v) (K (.own p.1)) := by
  apply propext
  simp only [stepRd, onO, onC]
  constructor
  · rintro ⟨r, h1, h2⟩; exact ⟨(r, v), tagOf_iff.2 h1, rfl, h2⟩
  · rintro ⟨⟨r, v'⟩, h1, h2, h3⟩; simp only at h2 h3; subst h2; exact ⟨r, tagOf_iff.1 h1, h3⟩
theorem rd_st {n : Nat} {xs : D} : stepRd o (some n) (.st xs) K = onC (xs.size = n) (onC (xs.noOwn = true) (K (.d (.st xs)))) := propext Iff.rfl
theorem ld_d {agg : Option Nat} {y : D} : stepLd o agg (.d (.ptr y)) K = stepRd o agg y K := propext Iff.rfl
theorem ld_ptr {agg : Option Nat} {r off : Nat} {p : List Nat} : stepLd o agg (.ptr r off p) K = onO (boxOf o r) fun z => onC (doff p z = off) (onO (dget p z) fun y => stepRd o agg y K) := by
  apply propext
  simp only [stepLd, onC, onO]
  constructor
  · rintro ⟨z, h1, h2, h3⟩; exact ⟨z, boxOf_iff.2 h1, h2, h3⟩
  · rintro ⟨z, h1, h2, h3⟩; exact ⟨z, boxOf_iff.1 h1, h2, h3⟩
theorem ld_el {agg : Option Nat} {r es i off : Nat} {p : List Nat} : stepLd o agg (.el r es i off p) K = onO (slOf o r es) fun xs => onO (xs.nth i) fun z => onC (doff p z = off) (onO (dget p z) fun y => stepRd o agg y K) := by
  apply propext
  simp only [stepLd, onC, onO]
  constructor
  · rintro ⟨xs, z, h1, h2, h3, h4⟩; exact ⟨xs, slOf_iff.2 h1, z, h2, h3, h4⟩
  · rintro ⟨xs, h1, z, h2, h3, h4⟩; exact ⟨xs, z, slOf_iff.1 h1, h2, h3, h4⟩
theorem fa_d {f off : Nat} {xs : D} : stepFa f off (.d (.ptr (.st xs))) K = onC (xs.pre f = off) (onO (xs.nth f) fun y => K (.d (.ptr y))) := propext Iff.rfl
theorem fa_ptr {f off r off' : Nat} {p : List Nat} : stepFa f off (.ptr r off' p) K = K (.ptr r (off' + off) (p ++ [f])) := propext Iff.rfl
theorem fa_el {f off r es i off' : Nat} {p : List Nat} : stepFa f off (.el r es i off' p) K = K (.el r es i (off' + off) (p ++ [f])) := propext Iff.rfl
theorem ext_eq {xs : List SV} {i : Nat} : stepExt (.tup xs) i K = onO xs[i]? K := propext Iff.rfl
def onT (t : Option (D × List Ob × List Nat)) (K : D → List Ob → List Nat → Prop) : Prop := ∃ x, t = some x ∧ K x.1 x.2.1 x.2.2
@[congr] theorem onT_congr {t t' : Option (D × List Ob × List Nat)} {K : D → List Ob → List Nat → Prop} (h : t = t') : onT t K = onT t' K := by rw [h]
theorem take_d {x : D} {K : D → List Ob → List Nat → Prop} : takeS o (.d x) K = K x o [] := propext Iff.rfl
theorem take_own {r : Nat} {K : D → List Ob → List Nat → Prop} : takeS o (.own r) K = onO (valOf o r) fun x => K x (o.set r .dead) [r] := by
  apply propext
  simp only [takeS, onO]
  constructor
  · rintro ⟨x, h1, h2⟩; exact ⟨x, valOf_iff.2 h1, h2⟩
  · rintro ⟨x, h1, h2⟩; exact ⟨x, valOf_iff.1 h1, h2⟩
def stOf (o : List Ob) (r : Nat) : Option D := match boxOf o r with
  | some (.st xs) => some xs
  | _ => none
theorem stOf_iff {r : Nat} {z : D} : stOf o r = some z ↔ o[r]? = some (.box (.st z)) := by
  unfold stOf; split
  · rename_i h; rw [boxOf_iff] at h; rw [h]; simp
  · rename_i h; constructor
    · intro h; cases h
    · intro h2; exact absurd (boxOf_iff.2 h2) (h z)
theorem take_vw {r : Nat} {K : D → List Ob → List Nat → Prop} : takeS o (.vw r) K = onO (stOf o r) fun xs => K (.st xs) (o.set r .dead) [r] := by
  apply propext
  simp only [takeS, onO]
  constructor
  · rintro ⟨x, h1, h2⟩; exact ⟨x, stOf_iff.2 h1, h2⟩
  · rintro ⟨x, h1, h2⟩; exact ⟨x, stOf_iff.1 h1, h2⟩
theorem store_ptr {r off : Nat} {p : List Nat} {y : D} {K : List Ob → Nat → Prop} : storeS o (.ptr r off p) y K = onO (boxOf o r) fun z => onC (doff p z = off) (onO (dget p z) fun u => onC (y.size = u.size) (K (o.set r (.box (dset p z y))) r)) := by
  apply propext
  simp only [storeS, onO, onC]
  constructor
  · rintro ⟨z, u, h1, h2, h3, h4, h5⟩; exact ⟨z, boxOf_iff.2 h1, h2, u, h3, h4, h5⟩
  · rintro ⟨z, h1, h2, u, h3, h4, h5⟩; exact ⟨z, u, boxOf_iff.1 h1, h2, h3, h4, h5⟩
theorem store_el {r es i off : Nat} {p : List Nat} {y : D} {K : List Ob → Nat → Prop} : storeS o (.el r es i off p) y K = onO (slOf o r es) fun xs => onO (xs.nth i) fun z => onC (doff p z = off) (onO (dget p z) fun u => onC (y.size = u.size) (K (o.set r (.val (.sl true es (xs.setN i (dset p z y))))) r)) := by
  apply propext
  simp only [storeS, onO, onC]
  constructor
  · rintro ⟨xs, z, u, h1, h2, h3, h4, h5, h6⟩; exact ⟨xs, slOf_iff.2 h1, z, h2, h3, u, h4, h5, h6⟩
  · rintro ⟨xs, h1, z, h2, h3, u, h4, h5, h6⟩; exact ⟨xs, z, u, slOf_iff.1 h1, h2, h3, h4, h5, h6⟩
theorem E_box {x : Opd} : stepE P s (.box x) KK = takeS s.o (evS s.e x) fun y o1 kr => onC (y.isV = true) (KK (.ptr o1.length 0 []) ⟨killL kr s.e, o1 ++ [.box y]⟩) := propext Iff.rfl
theorem E_alloc {z : D} : stepE P s (.alloc z) KK = KK (.ptr s.o.length 0 []) ⟨s.e, s.o ++ [.box z]⟩ := propext Iff.rfl
theorem E_st {n : Nat} {x v : Opd} : stepE P s (.st n x v) KK = takeS s.o (evS s.e v) fun y o1 kr => onC (y.isV = true) (onC (y.size = n) (onC (kr.all (fun r => !refA r (evS s.e x)) = true) (storeS o1 (evS s.e x) y fun o2 r => KK .undef ⟨kill (refV r) (killL kr s.e), o2⟩))) := propext Iff.rfl
theorem E_app {es bytes : Nat} {x y : Opd} : stepE P s (.app es bytes x y) KK = appS es bytes s.o (evS s.e x) (evS s.e y) fun sv o2 kr kk => KK sv ⟨killO kk (killL kr s.e), o2⟩ := propext Iff.rfl
theorem E_bs {es len : Nat} {z : D} {ps : List (Nat × Opd)} : stepE P s (.bs es len z ps) KK = takeParts s.o (ofL (List.replicate len z)) (partsS s.e ps) fun xs o1 kr => KK (.own o1.length) ⟨killL kr s.e, o1 ++ [.val (.sl true es xs)]⟩ := propext Iff.rfl
def onBld (s : St) (xs : D) (o1 : List Ob) (kr : List Nat) (b : Bool) (KK : SV → St → Prop) : Prop := if b then KK (.d (.st xs)) ⟨killL kr s.e, o1⟩ else KK (.own o1.length) ⟨killL kr s.e, o1 ++ [.val (.st xs)]⟩
theorem E_bld {z : D} {ps : List (Nat × Opd)} : stepE P s (.bld z ps) KK = takeParts s.o z (partsS s.e ps) fun xs o1 kr => onBld s xs o1 kr xs.noOwn KK := propext Iff.rfl
@[congr] theorem onBld_congr {xs xs' : D} {o1 o1' : List Ob} {kr : List Nat} {b b' : Bool} (h1 : xs = xs') (h2 : o1 = o1') (h3 : b = b') : onBld s xs o1 kr b KK = onBld s xs' o1' kr b' KK := by rw [h1, h2, h3]
theorem onBld_t {xs : D} {o1 : List Ob} {kr : List Nat} : onBld s xs o1 kr true KK = KK (.d (.st xs)) ⟨killL kr s.e, o1⟩ := propext Iff.rfl
theorem onBld_f {xs : D} {o1 : List Ob} {kr : List Nat} : onBld s xs o1 kr false KK = KK (.own o1.length) ⟨killL kr s.e, o1 ++ [.val (.st xs)]⟩ := propext Iff.rfl
def onMk (s : St) (es bytes : Nat) (z : D) (n : SV) (KK : SV → St → Prop) : Prop := match n with
  | .d (.int _ m) => (0 ≤ m ∧ (bytes : Int) * m ≤ 281474976710656 ∧ m ≤ 9223372036854775807) ∧ KK (.own s.o.length) ⟨s.e, s.o ++ [.val (.sl true es (ofL (List.replicate m.toNat z)))]⟩
  | _ => False
theorem E_mk {es bytes : Nat} {z : D} {n : Opd} : stepE P s (.mk es bytes z n) KK = onMk s es bytes z (evS s.e n) KK := propext Iff.rfl
theorem onMk_i {es bytes : Nat} {z : D} {k : IntKind} {m : Int} : onMk s es bytes z (.d (.int k m)) KK = onC (0 ≤ m ∧ (bytes : Int) * m ≤ 281474976710656 ∧ m ≤ 9223372036854775807) (KK (.own s.o.length) ⟨s.e, s.o ++ [.val (.sl true es (ofL (List.replicate m.toNat z)))]⟩) := propext Iff.rfl
theorem parts_nil {xs : D} {K : D → List Ob → List Nat → Prop} : takeParts o xs [] K = K xs o [] := propext Iff.rfl
theorem parts_cons {xs : D} {i : Nat} {sv : SV} {ps : List (Nat × SV)} {K : D → List Ob → List Nat → Prop} : takeParts o xs ((i, sv) :: ps) K = takeS o sv fun y o1 kr => onO (xs.nth i) fun u => onC (y.size = u.size) (onC (y.isV = true) (takeParts o1 (xs.setN i y) ps fun xs' o2 kr' => K xs' o2 (kr ++ kr'))) := by
  apply propext
  have e : takeParts o xs ((i, sv) :: ps) K = takeS o sv fun y o1 kr => ∃ u, xs.nth i = some u ∧ y.size = u.size ∧ y.isV = true ∧ takeParts o1 (xs.setN i y) ps fun xs' o2 kr' => K xs' o2 (kr ++ kr') := rfl
  rw [e]; exact Iff.rfl
theorem appB_nil {es bytes : Nat} {ys : D} {kr : List Nat} {K : SV → List Ob → List Nat → Option Nat → Prop} : appB es bytes o .nil ys kr K = onC (ys.len * bytes ≤ 140737488355328 ∧ ys.len ≤ 9223372036854775807) (K (.own o.length) (o ++ [.val (.sl true es ys)]) kr none) := propext Iff.rfl
theorem appB_own {es bytes r : Nat} {ys : D} {kr : List Nat} {K : SV → List Ob → List Nat → Option Nat → Prop} : appB es bytes o (.own r) ys kr K = onO (slOf o r es) fun xs => onC ((xs.len + ys.len) * bytes ≤ 140737488355328 ∧ xs.len + ys.len ≤ 9223372036854775807) (K (.own r) ((unT r o).set r (.val (.sl true es (xs.app ys)))) kr (some r)) := by
  apply propext
  simp only [appB, onO, onC]
  constructor
  · rintro ⟨xs, h1, h2, h3⟩; exact ⟨xs, slOf_iff.2 h1, h2, h3⟩
  · rintro ⟨xs, h1, h2, h3⟩; exact ⟨xs, slOf_iff.1 h1, h2, h3⟩
theorem appS_d {es es' bytes : Nat} {x : SV} {ow : Bool} {ys : D} {K : SV → List Ob → List Nat → Option Nat → Prop} : appS es bytes o x (.d (.sl ow es' ys)) K = onC (es' = es) (appB es bytes o x ys [] K) := propext Iff.rfl
theorem appS_nil {es bytes : Nat} {x : SV} {K : SV → List Ob → List Nat → Option Nat → Prop} : appS es bytes o x .nil K = appB es bytes o x .nil [] K := propext Iff.rfl
def onApp (es bytes : Nat) (o : List Ob) (x : SV) (q : Nat) (ys : D) (b : Bool) (K : SV → List Ob → List Nat → Option Nat → Prop) : Prop := if b then appB es bytes o x ys [] K else appB es bytes (o.set q .dead) x ys [q] K
theorem appS_own {es bytes q : Nat} {x : SV} {K : SV → List Ob → List Nat → Option Nat → Prop} : appS es bytes o x (.own q) K = onO (slOf o q es) fun ys => onC (x ≠ .own q) (onApp es bytes o x q ys ys.noOwn K) := by
  apply propext
  simp only [appS, onO, onC]
  constructor
  · rintro ⟨xs, h1, h2, h3⟩; exact ⟨xs, slOf_iff.2 h1, h2, h3⟩
  · rintro ⟨xs, h1, h2, h3⟩; exact ⟨xs, slOf_iff.1 h1, h2, h3⟩
@[congr] theorem onApp_congr {es bytes q : Nat} {x : SV} {ys ys' : D} {b b' : Bool} {K : SV → List Ob → List Nat → Option Nat → Prop} (h1 : ys = ys') (h3 : b = b') : onApp es bytes o x q ys b K = onApp es bytes o x q ys' b' K := by rw [h1, h3]
theorem onApp_t {es bytes q : Nat} {x : SV} {ys : D} {K : SV → List Ob → List Nat → Option Nat → Prop} : onApp es bytes o x q ys true K = appB es bytes o x ys [] K := propext Iff.rfl
theorem onApp_f {es bytes q : Nat} {x : SV} {ys : D} {K : SV → List Ob → List Nat → Option Nat → Prop} : onApp es bytes o x q ys false K = appB es bytes (o.set q .dead) x ys [q] K := propext Iff.rfl
theorem ret_t {e : Env} {t : Nat} {r : List ResultVar} {K : List D → Prop} : takeRes e o (.tmp t :: r) K = takeS o (look e t) fun x o1 _ => takeRes e o1 r fun xs => K (x :: xs) := propext Iff.rfl
theorem ret_nil {e : Env} {K : List D → Prop} : takeRes e o [] K = K [] := propext Iff.rfl
def onCell (o : List Ob) (sv : SV) (K : D → List Ob → Prop) : Prop := match sv with
  | .ptr q 0 [] => onO (stOf o q) fun xs => K (.st xs) (o.set q .dead)
  | _ => False
theorem ret_c {e : Env} {t ty : Nat} {r : List ResultVar} {K : List D → Prop} : takeRes e o (.cell t ty :: r) K = onCell o (look e t) fun x o1 => takeRes e o1 r fun ys => K (x :: ys) := by
  apply propext
  have e1 : takeRes e o (.cell t ty :: r) K = match look e t with
    | .ptr q 0 [] => ∃ xs, o[q]? = some (.box (.st xs)) ∧ takeRes e (o.set q .dead) r fun ys => K (.st xs :: ys)
    | _ => False := rfl
  rw [e1]
  unfold onCell
  split
  · simp only [onO, stOf_iff]
  · exact Iff.rfl
theorem onCell_i {q : Nat} {K : D → List Ob → Prop} : onCell o (.ptr q 0 []) K = onO (stOf o q) fun xs => K (.st xs) (o.set q .dead) := propext Iff.rfl
def onRet (P : Program) (rvs : List ResultVar) (R : List D → Prop) (s : St) : Prop := onC (resSizes P s.e s.o rvs) (takeRes s.e s.o rvs R)
@[congr] theorem onRet_congr {P : Program} {rvs : List ResultVar} {R : List D → Prop} {s' : St} (h : s = s') : onRet P rvs R s = onRet P rvs R s' := by rw [h]
theorem ret_n {P : Program} {rvs : List ResultVar} {R : List D → Prop} : RetQ P rvs R .normal s = onRet P rvs R s := propext Iff.rfl
theorem ret_r {P : Program} {rvs : List ResultVar} {R : List D → Prop} : RetQ P rvs R .ret s = onRet P rvs R s := propext Iff.rfl
theorem onRet_i {P : Program} {rvs : List ResultVar} {R : List D → Prop} : onRet P rvs R s = onC (resSizes P s.e s.o rvs) (takeRes s.e s.o rvs R) := propext Iff.rfl
theorem retO_t {e : Env} {t : Nat} {r : List ResultVar} {K : List D → List Ob → Prop} : takeResO e o (.tmp t :: r) K = takeS o (look e t) fun x o1 _ => takeResO e o1 r fun xs o2 => K (x :: xs) o2 := propext Iff.rfl
theorem retO_nil {e : Env} {K : List D → List Ob → Prop} : takeResO e o [] K = K [] o := propext Iff.rfl
theorem retO_c {e : Env} {t ty : Nat} {r : List ResultVar} {K : List D → List Ob → Prop} : takeResO e o (.cell t ty :: r) K = onCell o (look e t) fun x o1 => takeResO e o1 r fun ys o2 => K (x :: ys) o2 := by
  apply propext
  have e1 : takeResO e o (.cell t ty :: r) K = match look e t with
    | .ptr q 0 [] => ∃ xs, o[q]? = some (.box (.st xs)) ∧ takeResO e (o.set q .dead) r fun ys o2 => K (.st xs :: ys) o2
    | _ => False := rfl
  rw [e1]
  unfold onCell
  split
  · simp only [onO, stOf_iff]
  · exact Iff.rfl
def onOb (bx : Bool) (o : List Ob) (K : D → Prop) : Prop := ∃ x', o[0]? = some (mkOb bx x') ∧ K x'
theorem onOb_f {K : D → Prop} : onOb false o K = onO (valOf o 0) K := by
  apply propext
  simp only [onOb, onO, mkOb]
  exact ⟨fun ⟨x, h, k⟩ => ⟨x, valOf_iff.2 h, k⟩, fun ⟨x, h, k⟩ => ⟨x, valOf_iff.1 h, k⟩⟩
theorem onOb_t {K : D → Prop} : onOb true o K = onO (boxOf o 0) K := by
  apply propext
  simp only [onOb, onO, mkOb]
  exact ⟨fun ⟨x, h, k⟩ => ⟨x, boxOf_iff.2 h, k⟩, fun ⟨x, h, k⟩ => ⟨x, boxOf_iff.1 h, k⟩⟩
@[congr] theorem onOb_congr {bx : Bool} {o' : List Ob} {K : D → Prop} (h : o = o') : onOb bx o K = onOb bx o' K := by rw [h]
@[congr] theorem takeResO_congr {e e' : Env} {o' : List Ob} {rs : List ResultVar} {K : List D → List Ob → Prop} (he : e = e') (h : o = o') : takeResO e o rs K = takeResO e' o' rs K := by rw [h, he]
def onRetM (P : Program) (rvs : List ResultVar) (bx : Bool) (R : D → List D → Prop) (s : St) : Prop := onC (resSizes P s.e s.o rvs) (onC (look s.e 0 = firstS bx 0) (takeResO s.e s.o rvs fun rs o2 => onOb bx o2 fun x' => R x' rs))
@[congr] theorem onRetM_congr {P : Program} {rvs : List ResultVar} {bx : Bool} {R : D → List D → Prop} {s' : St} (h : s = s') : onRetM P rvs bx R s = onRetM P rvs bx R s' := by rw [h]
theorem retM_n {P : Program} {rvs : List ResultVar} {bx : Bool} {R : D → List D → Prop} : RetQM P rvs bx R .normal s = onRetM P rvs bx R s := propext Iff.rfl
theorem retM_r {P : Program} {rvs : List ResultVar} {bx : Bool} {R : D → List D → Prop} : RetQM P rvs bx R .ret s = onRetM P rvs bx R s := propext Iff.rfl
theorem onRetM_i {P : Program} {rvs : List ResultVar} {bx : Bool} {R : D → List D → Prop} : onRetM P rvs bx R s = onC (resSizes P s.e s.o rvs) (onC (look s.e 0 = firstS bx 0) (takeResO s.e s.o rvs fun rs o2 => onOb bx o2 fun x' => R x' rs)) := propext Iff.rfl
end
end Go.Pe
namespace Go.Pe
open Go Go.RowKit
@[congr] theorem takeS_congr {o o' : List Ob} {s s' : SV} {K : D → List Ob → List Nat → Prop} (ho : o = o') (hs : s = s') : takeS o s K = takeS o' s' K := by rw [ho, hs]
@[congr] theorem storeS_congr {o o' : List Ob} {x x' : SV} {y y' : D} {K : List Ob → Nat → Prop} (ho : o = o') (hx : x = x') (hy : y = y') : storeS o x y K = storeS o' x' y' K := by rw [ho, hx, hy]
@[congr] theorem takeParts_congr {o o' : List Ob} {xs xs' : D} {ps ps' : List (Nat × SV)} {K : D → List Ob → List Nat → Prop} (ho : o = o') (hxs : xs = xs') (hps : ps = ps') : takeParts o xs ps K = takeParts o' xs' ps' K := by rw [ho, hxs, hps]
@[congr] theorem appS_congr {es : Nat} {bytes : Nat} {o o' : List Ob} {x x' : SV} {y y' : SV} {K : SV → List Ob → List Nat → Option Nat → Prop} (ho : o = o') (hx : x = x') (hy : y = y') : appS es bytes o x y K = appS es bytes o' x' y' K := by rw [ho, hx, hy]
@[congr] theorem appB_congr {es : Nat} {bytes : Nat} {o o' : List Ob} {x x' : SV} {ys ys' : D} {kr kr' : List Nat} {K : SV → List Ob → List Nat → Option Nat → Prop} (ho : o = o') (hx : x = x') (hys : ys = ys') (hkr : kr = kr') : appB es bytes o x ys kr K = appB es bytes o' x' ys' kr' K := by rw [ho, hx, hys, hkr]
@[congr] theorem takeRes_congr {e e' : Env} {o o' : List Ob} {rs : List ResultVar} {K : List D → Prop} (he : e = e') (ho : o = o') : takeRes e o rs K = takeRes e' o' rs K := by rw [he, ho]
@[congr] theorem onCell_congr {o o' : List Ob} {x x' : SV} {K : D → List Ob → Prop} (ho : o = o') (hx : x = x') : onCell o x K = onCell o' x' K := by rw [ho, hx]
@[congr] theorem stepLd_congr {o o' : List Ob} {agg : Option Nat} {x x' : SV} {K : SV → Prop} (ho : o = o') (hx : x = x') : stepLd o agg x K = stepLd o' agg x' K := by rw [ho, hx]
@[congr] theorem stepRd_congr {o o' : List Ob} {agg : Option Nat} {y y' : D} {K : SV → Prop} (ho : o = o') (hy : y = y') : stepRd o agg y K = stepRd o' agg y' K := by rw [ho, hy]
@[congr] theorem stepIa_congr {o o' : List Ob} {es : Nat} {x x' : SV} {i i' : SV} {K : SV → Prop} (ho : o = o') (hx : x = x') (hi : i = i') : stepIa o es x i K = stepIa o' es x' i' K := by rw [ho, hx, hi]
@[congr] theorem stepIx_congr {x x' : SV} {i i' : SV} {K : SV → Prop} (hx : x = x') (hi : i = i') : stepIx x i K = stepIx x' i' K := by rw [hx, hi]
@[congr] theorem stepLen_congr {o o' : List Ob} {b : Bool} {x x' : SV} {K : SV → Prop} (ho : o = o') (hx : x = x') : stepLen o b x K = stepLen o' b x' K := by rw [ho, hx]
@[congr] theorem stepFa_congr {f : Nat} {off : Nat} {x x' : SV} {K : SV → Prop} (hx : x = x') : stepFa f off x K = stepFa f off x' K := by rw [hx]
@[congr] theorem stepExt_congr {x x' : SV} {i : Nat} {K : SV → Prop} (hx : x = x') : stepExt x i K = stepExt x' i K := by rw [hx]
@[congr] theorem stepConv_congr {k : IntKind} {x x' : SV} {K : SV → Prop} (hx : x = x') : stepConv k x K = stepConv k x' K := by rw [hx]
@[congr] theorem stepSls_congr {x x' : SV} {lo lo' : Option SV} {hi hi' : Option SV} {K : SV → Prop} (hx : x = x') (hlo : lo = lo') (hhi : hi = hi') : stepSls x lo hi K = stepSls x' lo' hi' K := by rw [hx, hlo, hhi]
@[congr] theorem stepMx_congr {b : Bool} {x x' : SV} {y y' : SV} {K : SV → Prop} (hx : x = x') (hy : y = y') : stepMx b x y K = stepMx b x' y' K := by rw [hx, hy]
@[congr] theorem stepBin_congr {op : BinOp} {x x' : SV} {y y' : SV} {K : SV → Prop} (hx : x = x') (hy : y = y') : stepBin op x y K = stepBin op x' y' K := by rw [hx, hy]
@[congr] theorem stepBB_congr {op : BinOp} {x x' : SV} {y y' : SV} {K : SV → Prop} (hx : x = x') (hy : y = y') : stepBB op x y K = stepBB op x' y' K := by rw [hx, hy]
@[congr] theorem stepIe_congr {op : BinOp} {x x' : SV} {y y' : SV} {K : SV → Prop} (hx : x = x') (hy : y = y') : stepIe op x y K = stepIe op x' y' K := by rw [hx, hy]
@[congr] theorem stepUn_congr {op : UnOp} {x x' : SV} {K : SV → Prop} (hx : x = x') : stepUn op x K = stepUn op x' K := by rw [hx]
@[congr] theorem onNck_congr {x x' : SV} {K : SV → Prop} (hx : x = x') : onNck x K = onNck x' K := by rw [hx]
@[congr] theorem stepP_congr {P : PG} {o o' : List Ob} {E : Nat → SV} {mo : MO} {K : SV → Prop} (ho : o = o') : stepP P o E mo K = stepP P o' E mo K := by rw [ho]
@[congr] theorem stepE_congr {P : PG} {s s' : St} {mo : MO} {K : SV → St → Prop} (hs : s = s') : stepE P s mo K = stepE P s' mo K := by rw [hs]
@[congr] theorem stepO_congr {P : PG} {s s' : St} {eff : Bool} {mo : MO} {K : SV → St → Prop} (hs : s = s') : stepO P s eff mo K = stepO P s' eff mo K := by rw [hs]
@[congr] theorem onMk_congr {s s' : St} {es : Nat} {bytes : Nat} {z : D} {n n' : SV} {K : SV → St → Prop} (hs : s = s') (hn : n = n') : onMk s es bytes z n K = onMk s' es bytes z n' K := by rw [hs, hn]
end Go.Pe
namespace Go.Pe
open Go Go.RowKit
def onSz (P : Program) (ty : TypeId) (o : List Ob) : SV → Prop
  | .ptr q 0 [] => match stOf o q with
    | some xs => sizeOfT P ty = some xs.size
    | none => True
  | _ => True
theorem sz_ptr {P : Program} {ty q : Nat} {o : List Ob} : onSz P ty o (.ptr q 0 []) = (match stOf o q with
    | some xs => sizeOfT P ty = some xs.size
    | none => True) := propext Iff.rfl
theorem sz_nil {P : Program} {e : Env} {o : List Ob} : resSizes P e o [] = True := propext Iff.rfl
theorem sz_t {P : Program} {e : Env} {o : List Ob} {t : Nat} {r : List ResultVar} : resSizes P e o (.tmp t :: r) = resSizes P e o r := propext Iff.rfl
theorem sz_c {P : Program} {e : Env} {o : List Ob} {t ty : Nat} {r : List ResultVar} : resSizes P e o (.cell t ty :: r) = (onSz P ty o (look e t) ∧ resSizes P e o r) := by
  apply propext
  refine and_congr ?_ Iff.rfl
  constructor
  · intro h
    unfold onSz
    split
    · rename_i q hq
      split
      · rename_i xs hx; exact h q xs hq (stOf_iff.1 hx)
      · trivial
    · trivial
  · intro h q xs hq hx
    rw [hq] at h
    rw [sz_ptr, stOf_iff.2 hx] at h
    exact h
end Go.Pe
namespace Go.Pe
open Go Go.RowKit Go.WideShapes Go.ChangeShapes
inductive Sh where
  | int (k : IntKind)
  | bool
  | str
  | sl (es : Nat) (e : Sh)
  | st (xs : Sh)
  | nil
  | cons (x xs : Sh)
def Sh.size : Sh → Nat
  | .st xs => xs.size
  | .nil => 0
  | .cons x xs => x.size + xs.size
  | _ => 1
def Sh.ok (P : Program) : Sh → TypeId ⊕ (List Field × Nat) → Bool
  | .int k, .inl t => match P.underlying t with
    | some (.int k') => k' == k
    | _ => false
  | .bool, .inl t => match P.underlying t with
    | some .bool => true
    | _ => false
  | .str, .inl t => match P.underlying t with
    | some .string => true
    | _ => false
  | .sl es e, .inl t => match P.underlying t with
    | some (.slice u) => P.cellsOf u == es && e.size == es && e.ok P (.inl u)
    | _ => false
  | .st xs, .inl t => match P.underlying t with
    | some (.struct fs) => P.cellsOf t == xs.size && xs.ok P (.inr (fs.toList, 0))
    | _ => false
  | .nil, .inr ([], _) => true
  | .cons x xs, .inr (f :: fs, off) => f.offset == off && P.cellsOf f.type == x.size && x.ok P (.inl f.type) && xs.ok P (.inr (fs, off + x.size))
  | _, _ => false
def Typed : Sh → D → Prop
  | .int k, x => ∃ n, x = .int k n ∧ (Lit.int k n).wf = true
  | .bool, x => ∃ b, x = .bool b
  | .str, x => ∃ s, x = .str s ∧ s.length ≤ maxLen
  | .sl es e, x => ∃ xs : List D, x = .sl false es (ofL xs) ∧ xs.length ≤ maxLen ∧ ∀ y ∈ xs, Typed e y
  | .st fs, x => ∃ xs, x = .st xs ∧ Typed fs xs
  | .nil, x => x = .nil
  | .cons f fs, x => ∃ y ys, x = .cons y ys ∧ Typed f y ∧ Typed fs ys
theorem Typed.size : ∀ (sh : Sh) (x : D), Typed sh x → x.size = sh.size
  | .int _, x, h => by obtain ⟨n, rfl, _⟩ := h; rfl
  | .bool, x, h => by obtain ⟨n, rfl⟩ := h; rfl
  | .str, x, h => by obtain ⟨n, rfl, _⟩ := h; rfl
  | .sl _ _, x, h => by obtain ⟨n, rfl, _⟩ := h; rfl
  | .st fs, x, h => by obtain ⟨xs, rfl, h⟩ := h; exact Typed.size fs xs h
  | .nil, x, h => by rw [h]; rfl
  | .cons f fs, x, h => by
    obtain ⟨y, ys, rfl, h1, h2⟩ := h
    show y.size + ys.size = f.size + fs.size
    rw [Typed.size f y h1, Typed.size fs ys h2]
section
variable {H : Type} {enc : TypeId × Value → H} {P : Program} {w : World} {base : Nat} {spare : Nat → Bool} {held : Bool}
theorem gather {a : Addr} {es : Nat} {e : Sh} : ∀ (k : Nat) (_ : ∀ i, i < k → ∃ cs x, (∀ j u, cs[j]? = some u → w.cell? ((a.add (i * es)).add j) = some u) ∧ cs.length = es ∧ D.rep w (fun _ => False) x cs [] ∧ Typed e x),
    ∃ xs ds, xs.length = k ∧ ds.length = k * es ∧ (ofL xs).rep w (fun _ => False) ds [] ∧ (∀ y ∈ xs, Typed e y) ∧ ∀ j u, ds[j]? = some u → w.cell? (a.add j) = some u
  | 0, _ => ⟨[], [], rfl, by simp, ⟨rfl, rfl⟩, by simp, by simp⟩
  | k + 1, h => by
    obtain ⟨xs, ds, h1, h2, h3, h4, h5⟩ := gather k fun i hi => h i (by omega)
    obtain ⟨cs, x, g1, g2, g3, g4⟩ := h k (by omega)
    refine ⟨xs ++ [x], ds ++ cs, by simp [h1], by simp [h2, g2, Nat.succ_mul], ?_, ?_, ?_⟩
    · exact (rep_append xs [x] (ds ++ cs) []).2 ⟨ds, cs, [], [], rfl, rfl, h3, cs, [], [], [], by simp, rfl, g3, rfl, rfl⟩
    · intro y hy
      rcases List.mem_append.1 hy with hy | hy
      · exact h4 y hy
      · rw [List.mem_singleton.1 hy]; exact g4
    · intro j u hu
      by_cases hj : j < ds.length
      · rw [List.getElem?_append_left hj] at hu; exact h5 j u hu
      · rw [List.getElem?_append_right (by omega)] at hu
        have := g1 _ u hu
        rw [add_add, h2, show k * es + (j - k * es) = j by omega] at this
        exact this
theorem bridge : ∀ (sh : Sh) (q : TypeId ⊕ (List Field × Nat)), sh.ok P q = true → match q with
    | .inl t => ∀ (fuel : Nat) (cs : List Value) (x : DataW H × List MemPlace), DataW.trod enc P w base spare held fuel t cs = some x → ∃ d, d.rep w (fun _ => False) cs [] ∧ Typed sh d
    | .inr (fs, off) => ∀ (n : Nat) (cs : List Value), cs.length = off + sh.size → (∀ f ∈ fs, ∃ y, DataW.trod enc P w base spare held n f.type ((cs.drop f.offset).take (P.cellsOf f.type)) = some y) →
        ∃ d, d.rep w (fun _ => False) (cs.drop off) [] ∧ Typed sh d
  | .int k, .inl t, hok => by
    intro fuel cs x h
    unfold Sh.ok at hok
    split at hok
    · rename_i k' ht
      have : k' = k := by simpa using hok
      subst this
      obtain ⟨n, rfl, _, hw⟩ := DataW.trod_int ht h
      exact ⟨.int k' n, ⟨rfl, rfl⟩, n, rfl, hw⟩
    · cases hok
  | .bool, .inl t, hok => by
    intro fuel cs x h
    unfold Sh.ok at hok
    split at hok
    · rename_i ht
      obtain ⟨n, rfl, _⟩ := DataW.trod_bool ht h
      exact ⟨.bool n, ⟨rfl, rfl⟩, n, rfl⟩
    · cases hok
  | .str, .inl t, hok => by
    intro fuel cs x h
    unfold Sh.ok at hok
    split at hok
    · rename_i ht
      obtain ⟨s, rfl, _, hs⟩ := DataW.trod_string ht h
      exact ⟨.str s.data.toList, ⟨rfl, rfl⟩, _, rfl, by simpa using hs⟩
    · cases hok
  | .sl es e, .inl t, hok => by
    intro fuel cs x h
    unfold Sh.ok at hok
    split at hok
    · rename_i u ht
      simp only [Bool.and_eq_true, beq_iff_eq] at hok
      obtain ⟨⟨hu, hes⟩, hoke⟩ := hok
      rcases Go.Deep.open_slice ht h with ⟨rfl, _⟩ | ⟨a, len, cap, m, n, D', Pl, rfl, hb, hl, hm, hmm, _, hx⟩
      · exact ⟨.sl false es .nil, ⟨trivial, none, 0, [], [], rfl, Nat.le_refl _, ⟨rfl, rfl⟩, rfl, rfl, .inl rfl⟩, [], rfl, Nat.zero_le _, by simp⟩
      · have hlm : len ≤ m := by rw [hmm]; split <;> omega
        have hel : ∀ i, i < len → ∃ cs x, (∀ j u, cs[j]? = some u → w.cell? ((a.add (i * es)).add j) = some u) ∧ cs.length = es ∧ Go.Pe.D.rep w (fun _ => False) x cs [] ∧ Typed e x := by
          intro i hi
          obtain ⟨cs', h1, h2⟩ := hx i (by omega)
          rw [hu] at h1
          obtain ⟨_, g2, g3⟩ := World.cells?_some h1
          obtain ⟨d, hd, hty⟩ := bridge e (.inl u) hoke _ _ _ h2
          refine ⟨cs', d, fun j v hv => ?_, g2, hd, hty⟩
          rw [g3 j (by rw [← g2]; exact lt_of_get hv)]; exact hv
        obtain ⟨xs, ds, h1, h2, h3, h4, h5⟩ := gather len hel
        have hlen : (ofL xs).len = len := by rw [len_ofL, h1]
        refine ⟨.sl false es (ofL xs), ⟨(isL_ofL xs).2 fun y hy => (Typed.size e y (h4 y hy)).trans hes, some a, cap, ds, [], by rw [hlen], by rw [hlen]; exact hl, h3, rfl, rfl, .inr ⟨a, rfl, ?_⟩⟩, xs, rfl, by rw [h1]; omega, h4⟩
        cases hds : ds with
        | nil => exact .inl rfl
        | cons v vs =>
          have h0 := h5 0 v (by rw [hds]; rfl)
          have hlt := Go.Lib.lt_of_cell h0
          rw [add_block] at hlt
          exact .inr ⟨hlt, fun h => h, by rw [← hds]; exact h5⟩
    · cases hok
  | .st xs, .inl t, hok => by
    intro fuel cs x h
    unfold Sh.ok at hok
    split at hok
    · rename_i fs ht
      simp only [Bool.and_eq_true, beq_iff_eq] at hok
      obtain ⟨hc, hok⟩ := hok
      obtain ⟨ys, n, _, _, hlen, hy, hf⟩ := DataW.trod_struct ht h
      obtain ⟨d, hd, hty⟩ := bridge xs (.inr (fs.toList, 0)) hok n cs (by rw [hlen, hc, Nat.zero_add]) (by
        intro f hf'
        obtain ⟨i, hi, he⟩ := List.getElem_of_mem hf'
        have hi2 : i < ys.length := by rw [hy]; simpa using hi
        exact ⟨ys[i], by rw [hf i f (by rw [← he]; simp), List.getElem?_eq_getElem hi2]⟩)
      exact ⟨.st d, (show d.rep w _ cs [] from by simpa using hd), d, rfl, hty⟩
    · cases hok
  | .nil, .inr ([], off), hok => by
    intro n cs hlen _
    exact ⟨.nil, ⟨by simp [Sh.size] at hlen; simp [hlen], rfl⟩, rfl⟩
  | .cons x xs, .inr (f :: fs, off), hok => by
    intro n cs hlen hf
    unfold Sh.ok at hok
    simp only [Bool.and_eq_true, beq_iff_eq] at hok
    obtain ⟨⟨⟨ho, hc⟩, hx⟩, hxs⟩ := hok
    obtain ⟨y, hy⟩ := hf f (by simp)
    obtain ⟨d, hd, hty⟩ := bridge x (.inl f.type) hx _ _ _ hy
    obtain ⟨ds, hds, htys⟩ := bridge xs (.inr (fs, off + x.size)) hxs n cs (by rw [hlen]; simp only [Sh.size]; omega) (fun g hg => hf g (by simp [hg]))
    rw [ho, hc] at hd
    refine ⟨.cons d ds, ⟨(cs.drop off).take x.size, cs.drop (off + x.size), [], [], ?_, rfl, hd, hds⟩, d, ds, rfl, hty, htys⟩
    rw [← List.drop_drop, List.take_append_drop]
  | .int _, .inr _, hok => by simp [Sh.ok] at hok
  | .bool, .inr _, hok => by simp [Sh.ok] at hok
  | .str, .inr _, hok => by simp [Sh.ok] at hok
  | .sl _ _, .inr _, hok => by simp [Sh.ok] at hok
  | .st _, .inr _, hok => by simp [Sh.ok] at hok
  | .nil, .inl _, hok => by simp [Sh.ok] at hok
  | .nil, .inr (_ :: _, _), hok => by simp [Sh.ok] at hok
  | .cons _ _, .inl _, hok => by simp [Sh.ok] at hok
  | .cons _ _, .inr ([], _), hok => by simp [Sh.ok] at hok
theorem bridgeV {r : Reach} {b0 : Nat} {t : TypeId} {v : Value} {d : DataW H} {ps : List MemPlace} (sh : Sh) (hok : sh.ok P (.inl t) = true) (hval : Value.okWide P w r b0 t v)
    (hd : DataW.Trod enc P w base spare held t v d ps) : ∃ x cs, x.rep w (fun _ => False) cs [] ∧ v = pack x cs ∧ Typed sh x := by
  obtain ⟨fuel, hf⟩ := hd
  obtain ⟨x, hx, hty⟩ := bridge sh (.inl t) hok fuel _ _ hf
  refine ⟨x, _, hx, ?_, hty⟩
  cases sh with
  | int k =>
    unfold Sh.ok at hok
    split at hok
    · rename_i k' ht
      obtain ⟨n, rfl⟩ := okWide_int ht hval
      obtain ⟨m, rfl, _⟩ := hty
      rfl
    · cases hok
  | bool =>
    unfold Sh.ok at hok
    split at hok
    · rename_i ht
      obtain ⟨n, rfl⟩ := okWide_bool ht hval
      obtain ⟨m, rfl⟩ := hty
      rfl
    · cases hok
  | str =>
    unfold Sh.ok at hok
    split at hok
    · rename_i ht
      obtain ⟨n, rfl⟩ := okWide_string ht hval
      obtain ⟨m, rfl, _⟩ := hty
      rfl
    · cases hok
  | sl es e =>
    unfold Sh.ok at hok
    split at hok
    · rename_i u ht
      obtain ⟨a, l, c, rfl⟩ := okWide_slice ht hval
      obtain ⟨m, rfl, _⟩ := hty
      rfl
    · cases hok
  | st xs =>
    unfold Sh.ok at hok
    split at hok
    · rename_i fs ht
      obtain ⟨cs, rfl, _⟩ := okWide_struct ht hval
      obtain ⟨m, rfl, _⟩ := hty
      simp [pack, Value.cells]
    · cases hok
  | nil => simp [Sh.ok] at hok
  | cons _ _ => simp [Sh.ok] at hok
end
end Go.Pe
namespace Go.Pe
open Go Go.RowKit
theorem repVs_cons {w : World} {x : D} {xs : List D} {cs : List Value} {us : List Value} (h : x.rep w (fun _ => False) cs []) (hs : RepVs w (fun _ => False) xs us []) : RepVs w (fun _ => False) (x :: xs) (pack x cs :: us) [] :=
  ⟨cs, us, [], [], rfl, rfl, h, hs⟩
theorem repVs_nil {w : World} : RepVs w (fun _ => False) [] [] [] := ⟨rfl, rfl⟩
theorem Fn.walk {P : PG} {f : FuncId} {ds : List D} {vs : List Value} {w : World} (h : Fn P f ds (fun rs => rs = [.bool true])) (hF : P.F w) (hv : RepVs w (fun _ => False) ds vs []) :
    Calls P.P f vs.toArray w fun e w' => e = .returned (.bool true) ∧ Below w.heap.size w w' := by
  refine (h (fun _ => False) vs w (fun b hb => hb.elim) ⟨w, hF, Nat.le_refl _, fun _ _ => ⟨fun h => h, rfl⟩⟩ hv).mono fun e w' ⟨rs, us, fp, he, hr, hrep, _, _, hx⟩ => ?_
  subst hr
  obtain ⟨cs, us', f1, f2, rfl, _, ⟨rfl, _⟩, rfl, _⟩ := hrep
  exact ⟨he, hx⟩
end Go.Pe
namespace Go.Pe
open Go Go.RowKit
def dl {α : Type} (f : α → D) (xs : List α) : D := ofL (xs.map f)
section
variable {α : Type} {f : α → D}
theorem dl_len (xs : List α) : (dl f xs).len = xs.length := by simp [dl, len_ofL]
theorem dl_nth (xs : List α) (i : Nat) : (dl f xs).nth i = (xs[i]?).map f := by simp [dl, nth_ofL]
theorem dl_app (xs ys : List α) : (dl f xs).app (dl f ys) = dl f (xs ++ ys) := by simp [dl, app_ofL]
theorem dl_unown (h : ∀ a, (f a).unown = f a) (xs : List α) : (dl f xs).unown = dl f xs := by
  have e : D.unown ∘ f = f := funext h
  simp [dl, unown_ofL, e]
theorem dl_noOwn (h : ∀ a, (f a).noOwn = true) : ∀ xs : List α, (dl f xs).noOwn = true
  | [] => rfl
  | x :: xs => by
    show ((f x).noOwn && (dl f xs).noOwn) = true
    rw [h, dl_noOwn h xs]; rfl
theorem dl_allOwn (h : ∀ a, (f a).allOwn = true) : ∀ xs : List α, (dl f xs).allOwn = true
  | [] => rfl
  | x :: xs => by
    show ((f x).allOwn && (dl f xs).allOwn) = true
    rw [h, dl_allOwn h xs]; rfl
theorem get_lt {xs : List α} {i : Nat} (h : i < xs.length) : ∃ a, xs[i]? = some a := ⟨xs[i], List.getElem?_eq_getElem h⟩
theorem typed_list {e : Sh} {P : α → Prop} (h : ∀ x, Typed e x → ∃ a, x = f a ∧ P a) : ∀ xs : List D, (∀ y ∈ xs, Typed e y) → ∃ ys : List α, ofL xs = dl f ys ∧ ys.length = xs.length ∧ ∀ a ∈ ys, P a
  | [], _ => ⟨[], rfl, rfl, by simp⟩
  | x :: xs, hx => by
    obtain ⟨a, rfl, ha⟩ := h x (hx x (by simp))
    obtain ⟨ys, h1, h2, h3⟩ := typed_list h xs fun y hy => hx y (by simp [hy])
    refine ⟨a :: ys, ?_, by simp [h2], ?_⟩
    · show D.cons (f a) (ofL xs) = D.cons (f a) (dl f ys)
      rw [h1]
    · intro b hb
      rcases List.mem_cons.1 hb with hb | hb
      · rw [hb]; exact ha
      · exact h3 b hb
end
theorem isV_int {k : IntKind} {n : Int} : (D.int k n).isV = true := rfl
theorem isV_bool {b : Bool} : (D.bool b).isV = true := rfl
theorem isV_str {b : List UInt8} : (D.str b).isV = true := rfl
theorem isV_err {b : Bool} : (D.err b).isV = true := rfl
theorem isV_sl {o : Bool} {es : Nat} {xs : D} : (D.sl o es xs).isV = true := rfl
theorem isV_st {xs : D} : (D.st xs).isV = true := rfl
theorem isV_ptr {x : D} : (D.ptr x).isV = true := rfl
theorem isV_clo {g : Nat} {x : D} : (D.clo g x).isV = true := rfl
def iD (n : Int) : D := .int .i64 n
end Go.Pe
namespace Go.Pe
open Go Go.RowKit
theorem inR_wrap (n : Int) : InR .i64 (IntKind.wrap .i64 n) := by
  simp only [InR, IntKind.wrap, IntKind.signed, IntKind.bits]
  simp
  omega
theorem onI_any {n : Int} {K : SV → Prop} (h : ∀ m, InR .i64 m → (InR .i64 n → m = n) → K (.d (.int .i64 m))) : onI .i64 n K := by
  by_cases hn : InR .i64 n
  · exact .inl ⟨hn, h n hn fun _ => rfl⟩
  · exact .inr (h _ (inR_wrap n) fun h => absurd h hn)
theorem take_nil {o : List Ob} {K : D → List Ob → List Nat → Prop} (es : Nat) (h : K (.sl true es .nil) o []) : takeS o .nil K := ⟨es, h⟩
theorem app_one {α : Type} {f : α → D} (xs : List α) (a : α) : (dl f xs).app (D.cons (f a) .nil) = dl f (xs ++ [a]) := dl_app xs [a]
theorem app_int (xs : List Int) (n : Int) : (dl iD xs).app (D.cons (.int .i64 n) .nil) = dl iD (xs ++ [n]) := dl_app xs [n]
theorem iD_unown (n : Int) : (iD n).unown = iD n := rfl
theorem iD_noOwn (n : Int) : (iD n).noOwn = true := rfl
theorem iD_allOwn (n : Int) : (iD n).allOwn = true := rfl
end Go.Pe
set_option linter.all false
namespace Go.Pe
open Go Go.RowKit
def obPart : Ob → Option Nat → List Nat → Option D
  | .box z, none, p => dget p z
  | .val (.sl true _ xs), some i, p => (xs.nth i).bind (dget p)
  | .val (.st xs), none, f :: p => dget (f :: p) (.st xs)
  | _, _, _ => none
def obSet : Ob → Option Nat → List Nat → D → Ob
  | .box z, none, p, y => .box (dset p z y)
  | .val (.sl true es xs), some i, p, y => .val (.sl true es (xs.setN i (dset p ((xs.nth i).getD .nil) y)))
  | .val (.st xs), none, f :: p, y => .val (dset (f :: p) (.st xs) y)
  | ob, _, _, _ => ob
theorem obSet_tag (ob : Ob) (i : Option Nat) (p : List Nat) (y u : D) (h : obPart ob i p = some u) (r : Nat) (v : Value) : obSet ob i p y ≠ .tag r v := by
  unfold obPart at h
  split at h
  · intro h2; cases h2
  · intro h2; cases h2
  · intro h2; cases h2
  · cases h
theorem splice_id {α : Type} (cs ds : List α) (k n : Nat) (h : (cs.drop k).take n = ds) : cs.take k ++ ds ++ cs.drop (k + n) = cs := by
  subst h
  rw [List.append_assoc, show cs.drop (k + n) = (cs.drop k).drop n by rw [List.drop_drop], List.take_append_drop, List.take_append_drop]
theorem obPart_rel {w : World} {M : Nat → Prop} {ob : Ob} {i : Option Nat} {p : List Nat} {u : D} {oc : OC} (h : ObRel w M ob oc) (hp : obPart ob i p = some u) :
    ∃ f1 f0 f2 ds, oc.fp = f1 ++ f0 ++ f2 ∧ u.rep w M ds f0 ∧ ∀ (M' : Nat → Prop) (y : D) (fy : List Nat), (∀ b, b < w.heap.size → M' b → M b) → y.rep w M' ds fy → ObRel w M' (obSet ob i p y) { oc with fp := f1 ++ fy ++ f2 } := by
  unfold obPart at hp
  split at hp
  · rename_i z
    obtain ⟨cs, fps, h1, h2, h3⟩ := h
    obtain ⟨f1, f0, f2, hf, hr, hle, hset⟩ := rep_dset p z cs fps u h2 hp
    refine ⟨oc.blk :: f1, f0, f2, _, by rw [h3, hf]; simp, hr, fun M' y fy hM hy => ?_⟩
    have hs : y.size = u.size := (rep_length _ _ _ hy).symm.trans (rep_length _ _ _ hr)
    have := hset w M' y _ fy ⟨Nat.le_refl _, hM, fun _ _ _ => rfl⟩ hy hs
    rw [splice_id _ _ _ _ rfl] at this
    exact ⟨cs, _, h1, this, by simp⟩
  · rename_i es xs i
    obtain ⟨cs, h1, h2⟩ := h
    obtain ⟨hL, a, c', ds, fps, e1, e2, h3, h4⟩ := h1
    cases hz : xs.nth i with
    | none => rw [hz] at hp; cases hp
    | some z =>
      rw [hz] at hp
      have hp : dget p z = some u := hp
      obtain ⟨g1, g0, g2, hg, hr1, hl1, hset1⟩ := rep_setN xs ds fps i z h3 hz
      obtain ⟨f1, f0, f2, hf, hr, hle, hset⟩ := rep_dset p z _ g0 u hr1 hp
      simp only [if_true] at h4
      have hne : xs.len ≠ 0 := by have := nth_len xs i z hz; omega
      rcases h4 with ⟨hc, _, _⟩ | ⟨g, ha, hrow, hfp⟩
      · omega
      · refine ⟨g :: (g1 ++ f1), f0, f2 ++ g2, _, by rw [hfp, hg, hf]; simp, hr, fun M' y fy hM hy => ?_⟩
        have hs : y.size = u.size := (rep_length _ _ _ hy).symm.trans (rep_length _ _ _ hr)
        have k1 := hset w M' y _ fy ⟨Nat.le_refl _, hM, fun _ _ _ => rfl⟩ hy hs
        rw [splice_id _ _ _ _ rfl] at k1
        have k2 := hset1 w M' _ _ _ ⟨Nat.le_refl _, hM, fun _ _ _ => rfl⟩ k1 (dset_size p z u y hp hs)
        rw [splice_id _ _ _ _ rfl] at k2
        have hzs : z.size = es := (pre_isL xs i z hL hz).2.1
        have hzg : (xs.nth i).getD .nil = z := by rw [hz]; rfl
        simp only [obSet, hzg]
        refine ⟨cs, ⟨setN_isL xs i _ hL (by rw [dset_size p z u y hp hs]; exact hzs), a, c', ds, _, by rw [e1, setN_len], by rw [setN_len]; exact e2, by simpa [hz] using k2, ?_⟩, h2⟩
        simp only [if_true]
        exact .inr ⟨g, ha, hrow, by simp⟩
  · rename_i zs f p
    obtain ⟨cs, h1, h2⟩ := h
    obtain ⟨f1, f0, f2, hf, hr, hle, hset⟩ := rep_dset (f :: p) (.st zs) cs oc.fp u h1 hp
    refine ⟨f1, f0, f2, _, hf, hr, fun M' y fy hM hy => ?_⟩
    have hs : y.size = u.size := (rep_length _ _ _ hy).symm.trans (rep_length _ _ _ hr)
    have := hset w M' y _ fy ⟨Nat.le_refl _, hM, fun _ _ _ => rfl⟩ hy hs
    rw [splice_id _ _ _ _ rfl] at this
    refine ⟨cs, this, ?_⟩
    show oc.v = _
    rw [h2]
    unfold dset
    split <;> rfl
  · cases hp
def killVs : List Nat → Env → Env
  | [], e => e
  | r :: rs, e => killVs rs (kill (refV r) e)
theorem look_killVs : ∀ (ks : List Nat) (e : Env) (t : Nat), look (killVs ks e) t = if ks.any (fun r => refV r (look e t)) then .any else look e t
  | [], e, t => by simp [killVs]
  | r :: rs, e, t => by
    simp only [killVs]
    rw [look_killVs rs, look_kill (refV r) rfl]
    by_cases h : refV r (look e t) = true
    · simp only [h, if_true, List.any_cons, Bool.true_or]
      split <;> rfl
    · simp [h]
theorem Rel.regroup {c : Ctx} {s : St} {C : List OC} {a : Act} {w : World} (h : Rel c s C a w) (ks : List Nat) {o' : List Ob} {C' : List OC} (hlen : o'.length = C'.length)
    (hsame : ∀ (r : Nat) (oc : OC), C[r]? = some oc → ∃ oc', C'[r]? = some oc' ∧ oc'.v = oc.v ∧ oc'.blk = oc.blk ∧ (r ∉ ks → oc' = oc))
    (hob : ∀ (r : Nat) (ob : Ob) (oc : OC), o'[r]? = some ob → C'[r]? = some oc → (s.o[r]? = some ob ∧ C[r]? = some oc) ∨ ObRel w (Ms c C') ob oc)
    (hnd : (Fps C').Nodup) (hsub : ∀ b ∈ Fps C', b ∈ Fps C)
    (htag : ∀ (q r : Nat) (v : Value), o'[q]? = some (.tag r v) → s.o[q]? = some (.tag r v) ∨ ∃ oc, C'[r]? = some oc ∧ oc.v = v) : Rel c ⟨killVs ks s.e, o'⟩ C' a w := by
  have hg : Went w w (fun _ => False) := Went.of_ext (Ext.refl w) _
  have hX : ∀ b, (fun _ => False : Nat → Prop) b → b ∈ Fps C := fun b hb => hb.elim
  have hmem : ∀ b ∈ Fps C', (b ∈ Fps C ∨ w.heap.size ≤ b) ∧ b < w.heap.size := fun b hb => ⟨.inl (hsub b hb), h.wd.lt b (hsub b hb)⟩
  have hval : ∀ (r : Nat) (oc : OC), C[r]? = some oc → ∃ oc', C'[r]? = some oc' ∧ oc'.v = oc.v := fun r oc h1 => by
    obtain ⟨oc', h2, h3, _⟩ := hsame r oc h1
    exact ⟨oc', h2, h3⟩
  refine ⟨h.tmps, h.defers, EnvR.upd (f := fun s => ks.any fun r => refV r s) hg hX hmem ?_ ?_ (look_killVs ks s.e) h.env, h.wd.upd hg hX hlen ?_ hnd hmem htag (fun q r v oc _ h1 => hval r oc h1), h.fix⟩
  · intro s r oc _ _ h1
    obtain ⟨oc', h2, h3, h4, _⟩ := hsame r oc h1
    exact ⟨oc', h2, h3, h4⟩
  · intro s r oc oc' hf hr h1 h2 h3
    obtain ⟨oc2, h4, _, _, h5⟩ := hsame r oc h1
    have hk : r ∉ ks := fun hk => by
      have := List.any_eq_false.1 hf r hk
      exact this hr
    rw [h4] at h3
    injection h3 with h3
    subst h3
    rw [h5 hk]
    exact ⟨h2, fun h => h⟩
  · intro r ob oc h1 h2
    rcases hob r ob oc h1 h2 with ⟨h3, h4⟩ | h3
    · exact .inl ⟨h3, h4, fun _ _ h => h⟩
    · exact .inr h3
theorem nodup_mid {α : Type} {f1 f0 f2 : List α} (h : (f1 ++ f0 ++ f2).Nodup) : (f1 ++ f2).Nodup ∧ f0.Nodup ∧ ∀ b ∈ f0, b ∉ f1 ++ f2 := by
  rw [List.append_assoc, List.nodup_append] at h
  obtain ⟨h1, h2, h3⟩ := h
  rw [List.nodup_append] at h2
  obtain ⟨h4, h5, h6⟩ := h2
  refine ⟨List.nodup_append.2 ⟨h1, h5, fun a ha b hb => h3 a ha b (by simp [hb])⟩, h4, fun b hb hm => ?_⟩
  rcases List.mem_append.1 hm with hm | hm
  · exact h3 b hm b (by simp [hb]) rfl
  · exact h6 b hb b hm rfl
section
variable {c : Ctx} {s : St} {C : List OC} {a : Act} {w : World}
theorem freeze {s : St} (r : Nat) {ob ob' : Ob} (i : Option Nat) (p : List Nat) {x : D} (h1 : s.o[r]? = some ob) (hp : obPart ob i p = some x) (hob : obSet ob i p x.unown = ob') :
    Weak s ⟨killVs [r] s.e, s.o.set r ob'⟩ := by
  subst hob
  intro c C a w h
  have hr := lt_of_get h1
  have hlen := h.wd.len
  obtain ⟨oc, h2⟩ : ∃ oc, C[r]? = some oc := ⟨C[r]'(by omega), List.getElem?_eq_getElem _⟩
  have hrC := lt_of_get h2
  obtain ⟨f1, f0, f2, ds, hf, hrep, hset⟩ := obPart_rel (h.wd.obs r ob oc h1 h2) hp
  have hnC := nodup_Fps.1 h.wd.nodup
  have hocn := hnC.1 r oc h2
  rw [hf] at hocn
  obtain ⟨n1, n2, n3⟩ := nodup_mid hocn
  have hin : ∀ b ∈ f1 ++ f0 ++ f2, b ∈ oc.fp := fun b hb => by rw [hf]; exact hb
  let C' : List OC := C.set r { oc with fp := f1 ++ [] ++ f2 }
  have hcase : ∀ (j : Nat) (od : OC), C'[j]? = some od → (j = r ∧ od = { oc with fp := f1 ++ [] ++ f2 }) ∨ (j ≠ r ∧ C[j]? = some od) := by
    intro j od hj
    rw [List.getElem?_set] at hj
    by_cases e2 : r = j
    · rw [if_pos e2, if_pos hrC] at hj
      injection hj with hj; exact .inl ⟨e2.symm, hj.symm⟩
    · rw [if_neg e2] at hj; exact .inr ⟨fun h => e2 h.symm, hj⟩
  have hsub : ∀ b ∈ Fps C', b ∈ Fps C ∧ b ∉ f0 := by
    intro b hb
    obtain ⟨j, od, hj, hb⟩ := mem_Fps.1 hb
    rcases hcase j od hj with ⟨_, rfl⟩ | ⟨e, hj⟩
    · simp at hb
      exact ⟨mem_Fps.2 ⟨r, oc, h2, hin b (by simp; rcases hb with hb | hb <;> simp [hb])⟩, fun h => n3 b h (by simpa using hb)⟩
    · exact ⟨mem_Fps.2 ⟨j, od, hj, hb⟩, fun h => hnC.2 r j oc od (fun h => e h.symm) h2 hj b (hin b (by simp [h])) hb⟩
  have hM : ∀ b, b < w.heap.size → Ms c C' b → Ms c C b := fun b _ hb => hb.imp id fun h => (hsub b h).1
  refine ⟨C', h.regroup [r] (by simp [C', hlen]) ?_ ?_ ?_ (fun b hb => (hsub b hb).1) ?_⟩
  · intro j od hj
    by_cases e2 : r = j
    · subst e2
      rw [h2] at hj; injection hj with hj; subst hj
      exact ⟨{ oc with fp := f1 ++ [] ++ f2 }, by rw [List.getElem?_set]; simp [hrC], rfl, rfl, fun hk => absurd (by simp) hk⟩
    · exact ⟨od, by rw [List.getElem?_set, if_neg e2]; exact hj, rfl, rfl, fun _ => rfl⟩
  · intro j oj odj hj1 hj2
    rcases hcase j odj hj2 with ⟨e, rfl⟩ | ⟨e1, hj⟩
    · subst e
      rw [List.getElem?_set] at hj1
      simp [hr] at hj1
      subst hj1
      refine .inr (hset (Ms c C') _ [] hM (rep_unown _ _ _ (fun b hb => ?_) (fun b hb hm => ?_) hrep))
      · exact hb.imp id fun h => (hsub b h).1
      · rcases hm with hm | hm
        · exact h.wd.apart b (mem_Fps.2 ⟨j, oc, h2, hin b (by simp [hb])⟩) hm
        · exact (hsub b hm).2 hb
    · rw [List.getElem?_set, if_neg (fun h => e1 h.symm)] at hj1
      exact .inl ⟨hj1, hj⟩
  · refine nodup_Fps.2 ⟨fun j od hj => ?_, fun j k od oe hne hj hk b hb hb' => ?_⟩
    · rcases hcase j od hj with ⟨_, rfl⟩ | ⟨_, hj⟩
      · simpa using n1
      · exact hnC.1 j od hj
    · rcases hcase j od hj with ⟨ej, rfl⟩ | ⟨ej, hj⟩ <;> rcases hcase k oe hk with ⟨ek, rfl⟩ | ⟨ek, hk⟩
      · omega
      · exact hnC.2 r k oc oe (fun h => ek h.symm) h2 hk b (hin b (by simp at hb ⊢; rcases hb with hb | hb <;> simp [hb])) hb'
      · exact hnC.2 r j oc od (fun h => ej h.symm) h2 hj b (hin b (by simp at hb' ⊢; rcases hb' with hb' | hb' <;> simp [hb'])) hb
      · exact hnC.2 j k od oe hne hj hk b hb hb'
  · intro q' t u hq'
    rw [List.getElem?_set] at hq'
    by_cases e2 : r = q'
    · rw [if_pos e2, if_pos hr] at hq'
      injection hq' with hq'; exact absurd hq' (obSet_tag ob i p _ _ hp t u)
    · rw [if_neg e2] at hq'; exact .inl hq'
end
end Go.Pe
set_option linter.all false
namespace Go.Pe
open Go Go.RowKit
section
variable {P : PG} {s : St} {o : List Ob} {E : Nat → SV} {K : SV → Prop} {KK : SV → St → Prop} {KN : Nat → Nat → Prop}
theorem stepP_slx {es : Nat} {x : Opd} {lo hi : Option Opd} : stepP P o E (.slx es x lo hi) K = stepSlx o es (evF E x) (evOO E lo) (evOO E hi) K := propext Iff.rfl
theorem stepP_sl0 {es : Nat} {x : Opd} : stepP P o E (.sl0 es x) K = stepSl0 o es (evF E x) K := propext Iff.rfl
theorem stepP_shr {x y : Opd} : stepP P o E (.shr x y) K = stepShr (evF E x) (evF E y) K := propext Iff.rfl
theorem stepP_ldv {n : Nat} {x : Opd} : stepP P o E (.ldv n x) K = stepLdv o n (evF E x) K := propext Iff.rfl
@[congr] theorem stepLdv_congr {o o' : List Ob} {n : Nat} {x x' : SV} (ho : o = o') (hx : x = x') : stepLdv o n x K = stepLdv o' n x' K := by rw [ho, hx]
def onW (b : Bool) (A B : Prop) : Prop := (b = true → A) ∧ (b = false → B)
@[congr] theorem onW_congr {b b' : Bool} {A B : Prop} (h : b = b') : onW b A B = onW b' A B := by rw [h]
theorem onW_true {A B : Prop} : onW true A B = A := propext ⟨fun h => h.1 rfl, fun h => ⟨fun _ => h, fun h => (by cases h)⟩⟩
theorem onW_false {A B : Prop} : onW false A B = B := propext ⟨fun h => h.2 rfl, fun h => ⟨fun h => (by cases h), fun _ => h⟩⟩
theorem ldv_d {n : Nat} {x : D} : stepLdv o n (.d x) K = stepLd o (some n) (.d x) K := propext Iff.rfl
theorem ldv_el {n r es i off : Nat} {p : List Nat} : stepLdv o n (.el r es i off p) K = stepLd o (some n) (.el r es i off p) K := propext Iff.rfl
theorem ldv_ptr {n r off : Nat} {p : List Nat} : stepLdv o n (.ptr r off p) K = onO (boxOf o r) fun z => onC (doff p z = off) (onO (dget p z) fun y => onW y.noOwn (stepRd o (some n) y K) (onC (p = []) (onC (y.size = n) (onC (y.isStB = true) (K (.vw r)))))) := by
  apply propext
  simp only [stepLdv, onO]
  have st : ∀ y : D, (∃ ys, y = .st ys) ↔ y.isStB = true := by
    intro y
    constructor
    · rintro ⟨ys, rfl⟩; rfl
    · intro h; cases y <;> first | exact ⟨_, rfl⟩ | cases h
  constructor
  · rintro ⟨z, hz, ho, y, hy, h1, h2⟩
    exact ⟨z, boxOf_iff.2 hz, ho, y, hy, h1, fun hn => ⟨(h2 hn).1, (h2 hn).2.1, (st y).1 (h2 hn).2.2.1, (h2 hn).2.2.2⟩⟩
  · rintro ⟨z, hz, ho, y, hy, h1, h2⟩
    exact ⟨z, boxOf_iff.1 hz, ho, y, hy, h1, fun hn => ⟨(h2 hn).1, (h2 hn).2.1, (st y).2 (h2 hn).2.2.1, (h2 hn).2.2.2⟩⟩
theorem stepP_iar {m es : Nat} {x i : Opd} : stepP P o E (.iar m es x i) K = stepIar m es (evF E x) (evF E i) K := propext Iff.rfl
@[congr] theorem stepIar_congr {m es : Nat} {x x' i i' : SV} (hx : x = x') (hi : i = i') : stepIar m es x i K = stepIar m es x' i' K := by rw [hx, hi]
theorem iar_d {m es : Nat} {xs : D} {k : IntKind} {n : Int} : stepIar m es (.d (.ptr (.st xs))) (.d (.int k n)) K = onC (0 ≤ n ∧ n < (m : Int)) (onC (xs.pre n.toNat = n.toNat * es) (onO (xs.nth n.toNat) fun y => K (.d (.ptr y)))) := propext Iff.rfl
theorem iar_ptr {m es r off : Nat} {p : List Nat} {k : IntKind} {n : Int} : stepIar m es (.ptr r off p) (.d (.int k n)) K = onC (0 ≤ n ∧ n < (m : Int)) (K (.ptr r (off + n.toNat * es) (p ++ [n.toNat]))) := propext Iff.rfl
theorem stepP_sq {neg : Bool} {ks : List Nat} {x y : Opd} : stepP P o E (.sq neg ks x y) K = stepSq neg ks (evF E x) (evF E y) K := propext Iff.rfl
@[congr] theorem stepSq_congr {neg : Bool} {ks : List Nat} {x x' y y' : SV} (hx : x = x') (hy : y = y') : stepSq neg ks x y K = stepSq neg ks x' y' K := by rw [hx, hy]
theorem sq_d {neg : Bool} {ks : List Nat} {a b : D} : stepSq neg ks (.d (.st a)) (.d (.st b)) K = onO (eqK ks a b) fun r => K (.d (.bool (if neg then !r else r))) := propext Iff.rfl
theorem stepP_b2s {x : Opd} : stepP P o E (.b2s x) K = stepB2s o (evF E x) K := propext Iff.rfl
@[congr] theorem stepSlx_congr {o o' : List Ob} {es : Nat} {x x' : SV} {lo lo' hi hi' : Option SV} (ho : o = o') (hx : x = x') (hl : lo = lo') (hh : hi = hi') : stepSlx o es x lo hi K = stepSlx o' es x' lo' hi' K := by rw [ho, hx, hl, hh]
@[congr] theorem stepSl0_congr {o o' : List Ob} {es : Nat} {x x' : SV} (ho : o = o') (hx : x = x') : stepSl0 o es x K = stepSl0 o' es x' K := by rw [ho, hx]
@[congr] theorem stepShr_congr {x x' y y' : SV} (hx : x = x') (hy : y = y') : stepShr x y K = stepShr x' y' K := by rw [hx, hy]
@[congr] theorem stepB2s_congr {o o' : List Ob} {x x' : SV} (ho : o = o') (hx : x = x') : stepB2s o x K = stepB2s o' x' K := by rw [ho, hx]
@[congr] theorem sliceB_congr {lo lo' hi hi' : Option SV} {n n' : Nat} (hl : lo = lo') (hh : hi = hi') (hn : n = n') : sliceB lo hi n KN = sliceB lo' hi' n' KN := by rw [hl, hh, hn]
theorem slx_d {es es' : Nat} {xs : D} {lo hi : Option SV} : stepSlx o es (.d (.sl false es' xs)) lo hi K = onC (es' = es) (sliceB lo hi xs.len fun a b => K (.d (.sl false es (xs.sub a b)))) := propext Iff.rfl
theorem slx_nil {es : Nat} {lo hi : Option SV} : stepSlx o es .nil lo hi K = sliceB lo hi 0 fun _ _ => K .nil := propext Iff.rfl
def slqOf (o : List Ob) (r es : Nat) : Option (Bool × D) := match valOf o r with
  | some (.sl ow es' xs) => if es' = es then some (ow, xs) else none
  | _ => none
theorem slqOf_iff {r es : Nat} {ow : Bool} {xs : D} : slqOf o r es = some (ow, xs) ↔ o[r]? = some (.val (.sl ow es xs)) := by
  unfold slqOf
  split
  · rename_i ow' es' xs' h
    rw [valOf_iff] at h
    split
    · rename_i he
      subst he
      rw [h]
      simp only [Option.some.injEq, Prod.mk.injEq, Ob.val.injEq, D.sl.injEq, true_and]
    · rename_i he
      rw [h]
      constructor
      · intro h; cases h
      · intro h; injection h with h; injection h with h; injection h with _ h2 _; exact absurd h2 he
  · rename_i h
    constructor
    · intro h; cases h
    · intro h2; exact absurd (valOf_iff.2 h2) (h _ _ _)
theorem slx_own {es r : Nat} {lo hi : Option SV} : stepSlx o es (.own r) lo hi K = onO (slqOf o r es) fun x => stepSlo r es x.1 x.2 lo hi K := by
  apply propext
  simp only [stepSlx, onO]
  constructor
  · rintro ⟨ow, xs, h, hk⟩; exact ⟨(ow, xs), slqOf_iff.2 h, hk⟩
  · rintro ⟨⟨ow, xs⟩, h, hk⟩; exact ⟨ow, xs, slqOf_iff.1 h, hk⟩
def onClr (s : St) (es : Nat) (z : D) (x : SV) (KK : SV → St → Prop) : Prop := match x with
  | .win r es' lo => es' = es ∧ ∃ xs, s.o[r]? = some (.val (.sl true es xs)) ∧ KK .any ⟨kill (refV r) s.e, s.o.set r (.val (.sl true es (clrD lo z xs)))⟩
  | _ => False
theorem E_clr {es : Nat} {z : D} {x : Opd} : stepE P s (.clr es z x) KK = onClr s es z (evS s.e x) KK := by
  simp only [stepE, onClr]
  all_goals
    generalize evS s.e x = q
    match q with
    | .d _ => rfl
    | .undef => rfl
    | .any => rfl
    | .nil => rfl
    | .own _ => rfl
    | .ptr _ _ _ => rfl
    | .el _ _ _ _ _ => rfl
    | .vw _ => rfl
    | .win _ _ _ => rfl
    | .tup _ => rfl
@[congr] theorem onClr_congr {s s' : St} {es : Nat} {z : D} {x x' : SV} (hs : s = s') (hx : x = x') : onClr s es z x KK = onClr s' es z x' KK := by rw [hs, hx]
theorem clr_win {es es' r lo : Nat} {z : D} : onClr s es z (.win r es' lo) KK = onC (es' = es) (onO (slOf s.o r es) fun xs => KK .any ⟨kill (refV r) s.e, s.o.set r (.val (.sl true es (clrD lo z xs)))⟩) := by
  apply propext
  simp only [onClr, onC, onO]
  constructor
  · rintro ⟨h, xs, h1, hk⟩; exact ⟨h, xs, slOf_iff.2 h1, hk⟩
  · rintro ⟨h, xs, h1, hk⟩; exact ⟨h, xs, slOf_iff.1 h1, hk⟩
theorem E_cut {es : Nat} {x hi : Opd} : stepE P s (.cut es x hi) KK = stepCut s es (evS s.e x) (evS s.e hi) KK := propext Iff.rfl
@[congr] theorem stepCut_congr {s s' : St} {es : Nat} {x x' hi hi' : SV} (hs : s = s') (hx : x = x') (hh : hi = hi') : stepCut s es x hi KK = stepCut s' es x' hi' KK := by rw [hs, hx, hh]
theorem cut_d {es : Nat} {y : D} {hi : SV} : stepCut s es (.d y) hi KK = stepSlx s.o es (.d y) none (some hi) fun sv => KK sv s := propext Iff.rfl
theorem cut_nil {es : Nat} {hi : SV} : stepCut s es .nil hi KK = stepSlx s.o es .nil none (some hi) fun sv => KK sv s := propext Iff.rfl
theorem cut_own {es r : Nat} {hi : SV} : stepCut s es (.own r) hi KK = onO (slqOf s.o r es) fun x => stepCuo s r es x.1 x.2 hi KK := by
  apply propext
  simp only [stepCut, onO]
  constructor
  · rintro ⟨ow, xs, h, hk⟩; exact ⟨(ow, xs), slqOf_iff.2 h, hk⟩
  · rintro ⟨⟨ow, xs⟩, h, hk⟩; exact ⟨ow, xs, slqOf_iff.1 h, hk⟩
@[congr] theorem stepCuo_congr {s s' : St} {r es : Nat} {ow ow' : Bool} {xs xs' : D} {hi hi' : SV} (hs : s = s') (ho : ow = ow') (hx : xs = xs') (hh : hi = hi') : stepCuo s r es ow xs hi KK = stepCuo s' r es ow' xs' hi' KK := by rw [hs, ho, hx, hh]
theorem cuo_f {r es : Nat} {xs : D} {hi : SV} : stepCuo s r es false xs hi KK = sliceB none (some hi) xs.len fun a b => KK (.d (.sl false es (xs.sub a b))) s := by unfold stepCuo; rfl
theorem cuo_t {r es : Nat} {xs : D} {k : IntKind} {b : Int} : stepCuo s r es true xs (.d (.int k b)) KK = onC (0 ≤ b ∧ b ≤ xs.len) (onV fun v => KK (.own s.o.length) ⟨kill (refV r) s.e, s.o.set r (.val (.lnk 0 v)) ++ [.val (.sl true es (xs.takeD b.toNat))]⟩) := propext Iff.rfl
@[congr] theorem stepSlo_congr {r es : Nat} {ow ow' : Bool} {xs xs' : D} {lo lo' hi hi' : Option SV} (ho : ow = ow') (hx : xs = xs') (hl : lo = lo') (hh : hi = hi') : stepSlo r es ow xs lo hi K = stepSlo r es ow' xs' lo' hi' K := by rw [ho, hx, hl, hh]
theorem slo_f {r es : Nat} {xs : D} {lo hi : Option SV} : stepSlo r es false xs lo hi K = sliceB lo hi xs.len fun a b => K (.d (.sl false es (xs.sub a b))) := by
  unfold stepSlo; rfl
theorem slo_t {r es : Nat} {xs : D} {k : IntKind} {a : Int} : stepSlo r es true xs (some (.d (.int k a))) none K = onC (0 ≤ a ∧ a < xs.len) (K (.win r es a.toNat)) := propext Iff.rfl
theorem slb_nn {n : Nat} : sliceB none none n KN = KN 0 n := propext Iff.rfl
theorem slb_a {n : Nat} {k : IntKind} {a : Int} : sliceB (some (.d (.int k a))) none n KN = onC (0 ≤ a ∧ a ≤ n) (KN a.toNat n) := propext Iff.rfl
theorem slb_b {n : Nat} {k : IntKind} {b : Int} : sliceB none (some (.d (.int k b))) n KN = onC (0 ≤ b ∧ b ≤ n) (KN 0 b.toNat) := propext Iff.rfl
theorem slb_ab {n : Nat} {k k' : IntKind} {a b : Int} : sliceB (some (.d (.int k a))) (some (.d (.int k' b))) n KN = onC (0 ≤ a ∧ a ≤ b ∧ b ≤ n) (KN a.toNat b.toNat) := propext Iff.rfl
theorem sl0_d {es es' : Nat} {ow : Bool} {xs : D} : stepSl0 o es (.d (.sl ow es' xs)) K = K (.d (.sl true es .nil)) := propext Iff.rfl
theorem sl0_nil {es : Nat} : stepSl0 o es .nil K = K .nil := propext Iff.rfl
theorem sl0_own {es r : Nat} : stepSl0 o es (.own r) K = onO (lenOf o r) fun _ => K (.d (.sl true es .nil)) := by
  apply propext
  simp only [stepSl0, onO, lenOf]
  constructor
  · rintro ⟨⟨es', xs, ow, h⟩, hk⟩
    exact ⟨xs.len, by rw [valOf_iff.2 h], hk⟩
  · rintro ⟨n, h, hk⟩
    split at h
    · rename_i ow es' xs h1
      exact ⟨⟨es', xs, ow, valOf_iff.1 h1⟩, hk⟩
    · cases h
theorem shr_i {k k' : IntKind} {a n : Int} : stepShr (.d (.int k a)) (.d (.int k' n)) K = onC (0 ≤ n) (K (.d (.int k (a.fdiv (2 ^ (min n.toNat k.bits)))))) := propext Iff.rfl
theorem b2s_nil : stepB2s o .nil K = K (.d (.str [])) := propext Iff.rfl
theorem sls_nn {s : List UInt8} : stepSls (.d (.str s)) none none K = K (.d (.str s)) := propext Iff.rfl
theorem sls_a {s : List UInt8} {k : IntKind} {a : Int} : stepSls (.d (.str s)) (some (.d (.int k a))) none K = onC (0 ≤ a ∧ a ≤ s.length) (K (.d (.str (s.drop a.toNat)))) := propext and_assoc.symm
theorem sls_b {s : List UInt8} {k : IntKind} {b : Int} : stepSls (.d (.str s)) none (some (.d (.int k b))) K = onC (0 ≤ b ∧ b ≤ s.length) (K (.d (.str (s.take b.toNat)))) := propext and_assoc.symm
theorem sls_ab {s : List UInt8} {k k' : IntKind} {a b : Int} : stepSls (.d (.str s)) (some (.d (.int k a))) (some (.d (.int k' b))) K = onC (0 ≤ a ∧ a ≤ b ∧ b ≤ s.length) (K (.d (.str ((s.take b.toNat).drop a.toNat)))) :=
  propext ⟨fun ⟨h1, h2, h3, h4⟩ => ⟨⟨h1, h2, h3⟩, h4⟩, fun ⟨⟨h1, h2, h3⟩, h4⟩ => ⟨h1, h2, h3, h4⟩⟩
def onClos (g : FuncId) (xs : Option D) (K : SV → Prop) : Prop := onO xs fun xs => K (.d (.clo g xs))
theorem stepP_clos {g : FuncId} {caps : List Opd} : stepP P o E (.clos g caps) K = onClos g (capsD (evL E caps)) K := by
  rw [evL_eq]
  apply propext
  simp only [stepP, onClos, onO]
  constructor
  · intro h
    split at h
    · rename_i xs hx; exact ⟨xs, hx, h⟩
    · exact h.elim
  · rintro ⟨xs, hx, h⟩
    rw [hx]; exact h
@[congr] theorem onClos_congr {g : FuncId} {xs xs' : Option D} (h : xs = xs') : onClos g xs K = onClos g xs' K := by rw [h]
theorem onClos_i {g : FuncId} {xs : D} : onClos g (some xs) K = K (.d (.clo g xs)) := by simp [onClos, onO]
def onCallV (P : PG) (o : List Ob) (f : SV) (as : List SV) (K : SV → Prop) : Prop := match f with
  | .d (.clo g xs) => (enterOK P.P g = true ∧ xs.caps = true) ∧ ∃ ds rs, argsOf o as ds ∧ Fn P g (ds ++ xs.list) (fun qs => qs = rs) ∧ (as.all isD = true ∨ rs.all D.allOwn = true) ∧ K (resSV (rs.map D.unown))
  | _ => False
theorem stepP_callV {f : Opd} {args : List Opd} : stepP P o E (.callV f args) K = onCallV P o (evF E f) (evL E args) K := by
  rw [evL_eq]
  simp only [stepP, onCallV]
  all_goals
    generalize evF E f = q
    match q with
    | .d (.bool _) => rfl
    | .d (.int _ _) => rfl
    | .d (.str _) => rfl
    | .d (.err _) => rfl
    | .d (.sl _ _ _) => rfl
    | .d (.st _) => rfl
    | .d (.ptr _) => rfl
    | .d (.clo _ _) => rfl
    | .d (.lnk _ _) => rfl
    | .d .nil => rfl
    | .d (.cons _ _) => rfl
    | .undef => rfl
    | .any => rfl
    | .nil => rfl
    | .own _ => rfl
    | .ptr _ _ _ => rfl
    | .el _ _ _ _ _ => rfl
    | .vw _ => rfl
    | .win _ _ _ => rfl
    | .tup _ => rfl
@[congr] theorem onCallV_congr {o o' : List Ob} {f f' : SV} {as as' : List SV} (ho : o = o') (hf : f = f') (h : as = as') : onCallV P o f as K = onCallV P o' f' as' K := by rw [ho, hf, h]
def onCallW (P : PG) (s : St) (f : SV) (as : List SV) (KK : SV → St → Prop) : Prop := match f with
  | .d (.clo g xs) => (enterOK P.P g = true ∧ xs.caps = true) ∧ ∃ ds R, argsOf s.o as ds ∧ Fn P g (ds ++ xs.list) R ∧ ∀ rs, R rs → (as.all isD = true ∨ rs.all D.allOwn = true) ∧ KK (resS (addRes rs s.o).1) ⟨s.e, (addRes rs s.o).2⟩
  | _ => False
theorem E_callW {f : Opd} {args : List Opd} : stepE P s (.callW f args) KK = onCallW P s (evS s.e f) (argsS s.e args) KK := by
  simp only [stepE, onCallW]
  all_goals
    generalize evS s.e f = q
    match q with
    | .d (.bool _) => rfl
    | .d (.int _ _) => rfl
    | .d (.str _) => rfl
    | .d (.err _) => rfl
    | .d (.sl _ _ _) => rfl
    | .d (.st _) => rfl
    | .d (.ptr _) => rfl
    | .d (.clo _ _) => rfl
    | .d (.lnk _ _) => rfl
    | .d .nil => rfl
    | .d (.cons _ _) => rfl
    | .undef => rfl
    | .any => rfl
    | .nil => rfl
    | .own _ => rfl
    | .ptr _ _ _ => rfl
    | .el _ _ _ _ _ => rfl
    | .vw _ => rfl
    | .win _ _ _ => rfl
    | .tup _ => rfl
@[congr] theorem onCallW_congr {s s' : St} {f f' : SV} {as as' : List SV} (hs : s = s') (hf : f = f') (h : as = as') : onCallW P s f as KK = onCallW P s' f' as' KK := by rw [hs, hf, h]
theorem appB_emp {es es' bytes : Nat} {ys : D} {kr : List Nat} {K : SV → List Ob → List Nat → Option Nat → Prop} : appB es bytes o (.d (.sl true es' .nil)) ys kr K = onC (es' = es) (onC (ys.len * bytes ≤ 140737488355328 ∧ ys.len ≤ 9223372036854775807) (K (.own o.length) (o ++ [.val (.sl true es ys)]) kr none)) := propext Iff.rfl
theorem bytesD_dl (bs : List UInt8) : bytesD bs = dl (fun b : UInt8 => D.int .u8 (b.toNat : Int)) bs := by
  induction bs with
  | nil => rfl
  | cons b bs ih => simp only [bytesD, ih]; rfl
end
section
def plainV : D → Option Value
  | .int k n => some (.int k n)
  | .bool b => some (.bool b)
  | .str s => some (.string ⟨s.toArray⟩)
  | _ => none
def plainVs : List D → Option (List Value)
  | [] => some []
  | d :: ds => match plainV d, plainVs ds with
    | some v, some vs => some (v :: vs)
    | _, _ => none
theorem plainV_rep {w : World} {M : Nat → Prop} {d : D} {v : Value} (h : plainV d = some v) : (∀ cs fp, d.rep w M cs fp → pack d cs = v ∧ fp = []) ∧ d.rep w M [v] [] ∧ pack d [v] = v := by
  cases d <;> simp only [plainV] at h <;> first
    | (injection h with h; subst h; exact ⟨fun cs fp hr => ⟨by rw [hr.1]; rfl, hr.2⟩, ⟨rfl, rfl⟩, rfl⟩)
    | cases h
theorem plainVs_in {w : World} {M : Nat → Prop} : ∀ {ds : List D} {vs us : List Value}, plainVs ds = some vs → RepVs w M ds us [] → us = vs
  | [], vs, us, h, hr => by injection h with h; rw [hr.1, ← h]
  | d :: ds, vs, us, h, hr => by
    obtain ⟨cs, us', f1, f2, rfl, hf, h1, h2⟩ := hr
    obtain ⟨rfl, rfl⟩ := List.append_eq_nil_iff.1 hf.symm
    unfold plainVs at h
    split at h
    · rename_i v vs' hv hvs
      injection h with h
      rw [← h, ((plainV_rep hv).1 cs [] h1).1, plainVs_in hvs h2]
    · cases h
theorem plainVs_out {w : World} {M : Nat → Prop} : ∀ {rs : List D} {us : List Value}, plainVs rs = some us → RepVs w M rs us []
  | [], us, h => by injection h with h; exact ⟨h.symm, rfl⟩
  | d :: ds, us, h => by
    unfold plainVs at h
    split at h
    · rename_i v vs' hv hvs
      injection h with h
      obtain ⟨_, h2, h3⟩ := plainV_rep (w := w) (M := M) hv
      exact ⟨[v], vs', [], [], by rw [← h, h3], rfl, h2, plainVs_out hvs⟩
    · cases h
theorem Fn_lib {P : PG} {f : FuncId} {ds rs : List D} {vs us : List Value} (hd : plainVs ds = some vs) (hr : plainVs rs = some us) (h : ∀ w, P.F w → Calls P.P f vs.toArray w fun e w' => e = .returned (retV us) ∧ Ext w w') : Fn P f ds (fun qs => qs = rs) := by
  intro M vs' w hM hg hvs
  rw [plainVs_in hd hvs]
  refine (h w hg.fact).mono ?_
  rintro e w' ⟨rfl, hx⟩
  exact ⟨rs, us, [], rfl, rfl, plainVs_out hr, List.nodup_nil, (fun b hb => by cases hb), hx⟩
theorem Ext.drewN {w : World} (n : Nat) : Ext w (w.drewN n) := ⟨rfl, rfl, rfl, Nat.le_refl _, fun _ _ => rfl⟩
end
theorem RepVs.unown {w : World} {M M' : Nat → Prop} : ∀ (ds : List D) (vs : List Value) (fp : List Nat), (∀ b, M' b → M b) → (∀ b ∈ fp, ¬ M' b) → RepVs w M ds vs fp → RepVs w M' (ds.map D.unown) vs []
  | [], vs, fp, h1, h2, h => ⟨h.1, rfl⟩
  | d :: ds, vs, fp, h1, h2, h => by
    obtain ⟨cs, us, f1, f2, rfl, rfl, h3, h4⟩ := h
    exact ⟨cs, us, [], [], by rw [pack_unown], rfl, rep_unown d cs f1 h1 (fun b hb => h2 b (List.mem_append_left _ hb)) h3, RepVs.unown ds us f2 h1 (fun b hb => h2 b (List.mem_append_right _ hb)) h4⟩
def onS2b (s : St) (x : SV) (KK : SV → St → Prop) : Prop := match x with
  | .d (.str bs) => KK (.own s.o.length) ⟨s.e, s.o ++ [.val (.sl true 1 (bytesD bs))]⟩
  | _ => False
theorem E_s2b {P : PG} {s : St} {x : Opd} {KK : SV → St → Prop} : stepE P s (.s2b x) KK = onS2b s (evS s.e x) KK := propext Iff.rfl
theorem s2b_d {s : St} {bs : List UInt8} {KK : SV → St → Prop} : onS2b s (.d (.str bs)) KK = KK (.own s.o.length) ⟨s.e, s.o ++ [.val (.sl true 1 (bytesD bs))]⟩ := propext Iff.rfl
@[congr] theorem onS2b_congr {s s' : St} {x x' : SV} {KK : SV → St → Prop} (hs : s = s') (hx : x = x') : onS2b s x KK = onS2b s' x' KK := by rw [hs, hx]
theorem E_snil {P : PG} {s : St} {neg : Bool} {x : Opd} {KK : SV → St → Prop} : stepE P s (.snil neg x) KK = stepSnil s.o neg (evS s.e x) fun sv => KK sv s := propext Iff.rfl
theorem snil_nil {o : List Ob} {neg : Bool} {K : SV → Prop} : stepSnil o neg .nil K = K (.d (.bool (!neg))) := propext Iff.rfl
theorem snil_d {o : List Ob} {neg ow : Bool} {es : Nat} {xs : D} {K : SV → Prop} : stepSnil o neg (.d (.sl ow es xs)) K = nilQ neg xs.len K := propext Iff.rfl
theorem snil_own {o : List Ob} {neg : Bool} {r : Nat} {K : SV → Prop} : stepSnil o neg (.own r) K = onO (lenOf o r) fun n => nilQ neg n K := by
  apply propext
  simp only [stepSnil, onO, lenOf]
  constructor
  · rintro ⟨es, xs, ow, h, hk⟩
    exact ⟨xs.len, by rw [valOf_iff.2 h], hk⟩
  · rintro ⟨n, h, hk⟩
    split at h
    · rename_i ow es xs h1
      injection h with h
      subst h
      exact ⟨es, xs, ow, valOf_iff.1 h1, hk⟩
    · cases h
@[congr] theorem stepSnil_congr {o o' : List Ob} {neg : Bool} {x x' : SV} {K : SV → Prop} (ho : o = o') (hx : x = x') : stepSnil o neg x K = stepSnil o' neg x' K := by rw [ho, hx]
@[congr] theorem nilQ_congr {neg : Bool} {n n' : Nat} {K : SV → Prop} (h : n = n') : nilQ neg n K = nilQ neg n' K := by rw [h]
def mpOf (o : List Ob) (r : Nat) : Option (List (List UInt8 × Int)) := match o[r]? with
  | some (.mp kvs) => some kvs
  | _ => none
theorem mpOf_iff {o : List Ob} {r : Nat} {kvs : List (List UInt8 × Int)} : mpOf o r = some kvs ↔ o[r]? = some (.mp kvs) := by
  unfold mpOf; split
  · rename_i h; rw [h]; simp
  · rename_i h; constructor
    · intro h; cases h
    · intro h2; exact absurd h2 (h _)
theorem E_mkm {P : PG} {s : St} {KK : SV → St → Prop} : stepE P s .mkm KK = KK (.own s.o.length) ⟨s.e, s.o ++ [.mp []]⟩ := propext Iff.rfl
theorem E_ins {P : PG} {s : St} {m k v : Opd} {KK : SV → St → Prop} : stepE P s (.ins m k v) KK = stepIns s (evS s.e m) (evS s.e k) (evS s.e v) KK := propext Iff.rfl
theorem E_lkp {P : PG} {s : St} {m k : Opd} {KK : SV → St → Prop} : stepE P s (.lkp m k) KK = stepLkp s (evS s.e m) (evS s.e k) KK := propext Iff.rfl
@[congr] theorem stepIns_congr {s s' : St} {m m' k k' v v' : SV} {KK : SV → St → Prop} (h : s = s') (h1 : m = m') (h2 : k = k') (h3 : v = v') : stepIns s m k v KK = stepIns s' m' k' v' KK := by rw [h, h1, h2, h3]
@[congr] theorem stepLkp_congr {s s' : St} {m m' k k' : SV} {KK : SV → St → Prop} (h : s = s') (h1 : m = m') (h2 : k = k') : stepLkp s m k KK = stepLkp s' m' k' KK := by rw [h, h1, h2]
theorem ins_own {s : St} {r : Nat} {b : List UInt8} {n : Int} {KK : SV → St → Prop} : stepIns s (.own r) (.d (.str b)) (.d (.int .i64 n)) KK = onO (mpOf s.o r) fun kvs => onC (lkp kvs b = none) (KK .undef ⟨kill (refV r) s.e, s.o.set r (.mp (kvs ++ [(b, n)]))⟩) := by
  apply propext
  simp only [stepIns, onO, onC, mpOf_iff]
theorem lkp_own {s : St} {r : Nat} {b : List UInt8} {KK : SV → St → Prop} : stepLkp s (.own r) (.d (.str b)) KK = onO (mpOf s.o r) fun kvs => KK (.tup [.d (.int .i64 ((lkp kvs b).getD 0)), .d (.bool (lkp kvs b).isSome)]) s := by
  apply propext
  simp only [stepLkp, onO, mpOf_iff]
end Go.Pe
set_option linter.all false
set_option maxRecDepth 100000
namespace Go.Pe
open Go Go.RowKit
def wA0 := And.intro @execM_skip (And.intro @execM_seq (And.intro @execM_reg (And.intro @execM_ret (And.intro @execM_exit (And.intro @execM_block (And.intro @execM_cond (And.intro @execC_true (And.intro @execC_false (And.intro @thenQ_n (And.intro @thenQ_r (And.intro @thenQ_e (And.intro @inB_n (And.intro @inB_r (And.intro @inB_e (And.intro @execR_nil (And.intro @execR_op (And.intro @execR_g (And.intro @execG_true (And.intro @execG_false (And.intro @execG_tf (And.intro @execG_ft (And.intro @execG_un (And.intro @stepO_t (And.intro @stepO_f (And.intro @stepP_mov (And.intro @stepP_pick (And.intro @onPick_true (And.intro @onPick_false (And.intro @stepP_bin (And.intro @stepP_bb (And.intro @stepP_ie (And.intro @stepP_un (And.intro @stepP_nck (And.intro @stepP_ld (And.intro @stepP_fa (And.intro @stepP_ia (And.intro @stepP_ix (And.intro @stepP_len (@stepP_ext)))))))))))))))))))))))))))))))))))))))
def wA1 := And.intro @stepP_conv (And.intro @stepP_sls (And.intro @stepP_mx (And.intro @stepP_callP (And.intro @stepE_call (And.intro @int_add (And.intro @int_sub (And.intro @int_mul (And.intro @int_quo (And.intro @int_rem (And.intro @int_and (And.intro @int_or (And.intro @int_xor (And.intro @int_eql (And.intro @int_neq (And.intro @int_lss (And.intro @int_leq (And.intro @int_gtr (And.intro @int_geq (And.intro @bin_int (And.intro @bin_str (And.intro @str_add (And.intro @str_eql (And.intro @str_neq (And.intro @str_lss (And.intro @bb_eql (And.intro @bb_neq (And.intro @ie_eql (And.intro @ie_neq (And.intro @un_not (And.intro @un_neg (And.intro @conv_eq (And.intro @mx_eq (And.intro @len_str (And.intro @len_sl (And.intro @len_nil (And.intro @len_own (And.intro @ix_eq (And.intro @ia_d (@ia_own)))))))))))))))))))))))))))))))))))))))
def wA2 := And.intro @rd_int (And.intro @rd_bool (And.intro @rd_str (And.intro @rd_err (And.intro @rd_sl (And.intro @rd_st (And.intro @ld_d (And.intro @ld_ptr (And.intro @ld_el (And.intro @fa_d (And.intro @fa_ptr (And.intro @fa_el (And.intro @ext_eq (And.intro @take_d (And.intro @take_own (And.intro @take_vw (And.intro @store_ptr (And.intro @store_el (And.intro @E_box (And.intro @E_alloc (And.intro @E_st (And.intro @E_app (And.intro @E_bs (And.intro @E_bld (And.intro @onBld_t (And.intro @onBld_f (And.intro @E_mk (And.intro @onMk_i (And.intro @parts_nil (And.intro @parts_cons (And.intro @appB_nil (And.intro @appB_own (And.intro @appS_d (And.intro @appS_nil (And.intro @appS_own (And.intro @onApp_t (And.intro @onApp_f (And.intro @ret_t (And.intro @ret_nil (@ret_c)))))))))))))))))))))))))))))))))))))))
def wA3 := And.intro @onCell_i (And.intro @ret_n (And.intro @ret_r (And.intro @onRet_i (And.intro @retM_n (And.intro @retM_r (And.intro @onRetM_i (And.intro @retO_t (And.intro @retO_nil (And.intro @retO_c (And.intro @onOb_f (And.intro @onOb_t (And.intro @onO_some (And.intro @onC_true (And.intro @sz_nil (And.intro @sz_t (And.intro @sz_c (And.intro @rd_lnk (And.intro @stepP_slx (And.intro @stepP_sl0 (And.intro @stepP_shr (And.intro @stepP_b2s (And.intro @slx_d (And.intro @slx_nil (And.intro @slb_nn (And.intro @slb_a (And.intro @slb_b (And.intro @slb_ab (And.intro @sl0_d (And.intro @sl0_nil (And.intro @sl0_own (And.intro @shr_i (And.intro @b2s_nil (And.intro @sls_nn (And.intro @sls_a (And.intro @sls_b (And.intro @sls_ab (And.intro @stepP_clos (And.intro @onClos_i (@stepP_callV)))))))))))))))))))))))))))))))))))))))
def wA4 := And.intro @E_callW (And.intro @appB_emp (And.intro @execM_any (And.intro @execA_done (And.intro @execA_q (And.intro @execA_br (And.intro @execA_e0 (And.intro @execA_eR (And.intro @execE_t (And.intro @execE_f (And.intro @execF_c (And.intro @E_snil (And.intro @snil_nil (And.intro @snil_d (And.intro @snil_own (And.intro @slx_own (And.intro @slo_f (And.intro @slo_t (And.intro @E_clr (And.intro @clr_win (And.intro @E_cut (And.intro @cut_d (And.intro @cut_nil (And.intro @cut_own (And.intro @cuo_f (And.intro @cuo_t (And.intro @stepP_sq (And.intro @sq_d (And.intro @E_s2b (And.intro @s2b_d (And.intro @stepP_iar (And.intro @iar_d (And.intro @iar_ptr (And.intro @stepP_ldv (And.intro @ldv_d (And.intro @ldv_el (And.intro @ldv_ptr (And.intro @onW_true (And.intro @onW_false (@E_mkm)))))))))))))))))))))))))))))))))))))))
def wA5 := And.intro @E_ins (And.intro @E_lkp (And.intro @ins_own (@lkp_own)))
def wA := And.intro @wA0 (And.intro @wA1 (And.intro @wA2 (And.intro @wA3 (And.intro @wA4 (@wA5)))))
def wC0 := And.intro @onNck.eq_1 (And.intro @onNck.eq_2 (And.intro @onNck.eq_3 (And.intro @onNck.eq_4 (And.intro @onNck.eq_5 (And.intro @look.eq_1 (And.intro @look.eq_2 (And.intro @putE.eq_1 (@putE.eq_2))))))))
def wC := @wC0
def wB0 := And.intro @sz_ptr (And.intro @isV_int (And.intro @isV_bool (And.intro @isV_str (And.intro @isV_err (And.intro @isV_sl (And.intro @isV_st (And.intro @isV_ptr (And.intro @isV_clo (And.intro @Nat.zero_add (And.intro @Nat.add_zero (And.intro @Bool.false_eq_true (And.intro @Bool.true_eq_false (And.intro @Bool.not_true (And.intro @Bool.not_false (And.intro @Bool.and_true (And.intro @Bool.true_and (And.intro @Bool.and_false (And.intro @Bool.false_and (And.intro @Bool.or_false (And.intro @Bool.false_or (And.intro @Bool.or_true (And.intro @Bool.true_or (And.intro @true_and (And.intro @and_true (And.intro @SV.own.injEq (And.intro @SV.ptr.injEq (And.intro @not_false_eq_true (And.intro @not_true_eq_false (And.intro @decide_true (And.intro @decide_false (And.intro @Option.some.injEq.{0} (And.intro @List.getElem?_cons_zero.{0} (And.intro @List.getElem?_cons_succ.{0} (And.intro @List.getElem?_nil.{0} (And.intro @List.set_cons_zero.{0} (And.intro @List.set_cons_succ.{0} (And.intro @List.length_cons.{0} (And.intro @List.length_nil.{0} (@List.length_append.{0})))))))))))))))))))))))))))))))))))))))
def wB1 := And.intro @List.cons_append.{0} (And.intro @List.nil_append.{0} (And.intro @List.append_nil.{0} (And.intro @List.any_cons.{0} (And.intro @List.any_nil.{0} (And.intro @List.all_cons.{0} (And.intro @List.all_nil.{0} (And.intro @List.map_cons.{0, 0} (And.intro @List.map_nil.{0, 0} (And.intro @if_true.{0} (And.intro @if_false.{0} (And.intro @beq_self_eq_true.{0} (And.intro @ne_eq.{0} (And.intro @eq_self.{0} (And.intro @beq_iff_eq.{0} (And.intro @List.append_assoc.{0} (And.intro @Option.map_some.{0, 0} (And.intro @Option.map_none.{0, 0} (And.intro @List.contains_nil.{0} (And.intro @List.contains_cons.{0} (And.intro @evL.eq_1 (And.intro @evL.eq_2 (And.intro @argsS.eq_1 (And.intro @argsS.eq_2 (And.intro @partsS.eq_1 (And.intro @partsS.eq_2 (And.intro @firstS.eq_1 (And.intro @mkOb.eq_1 (And.intro @evF.eq_1 (And.intro @evF.eq_2 (And.intro @evS.eq_1 (And.intro @evS.eq_2 (And.intro @evOO.eq_1 (And.intro @evOO.eq_2 (And.intro @initE.eq_1 (And.intro @initE.eq_2 (And.intro @keepE.eq_1 (And.intro @keepE.eq_2 (And.intro @boxOf.eq_1 (@valOf.eq_1)))))))))))))))))))))))))))))))))))))))
def wB2 := And.intro @slOf.eq_1 (And.intro @slqOf.eq_1 (And.intro @slwOf.eq_1 (And.intro @elS.eq_1 (And.intro @elS.eq_2 (And.intro @stOf.eq_1 (And.intro @lenOf.eq_1 (And.intro @killL.eq_1 (And.intro @killL.eq_2 (And.intro @kill.eq_1 (And.intro @kill.eq_2 (And.intro @killO.eq_1 (And.intro @killO.eq_2 (And.intro @refA.eq_1 (And.intro @refA.eq_2 (And.intro @ref0.eq_1 (And.intro @ref0.eq_2 (And.intro @ref0.eq_3 (And.intro @ref0.eq_4 (And.intro @ref0.eq_5 (And.intro @ref0.eq_6 (And.intro @refV.eq_1 (And.intro @refV.eq_2 (And.intro @refV.eq_3 (And.intro @addRes.eq_1 (And.intro @addRes.eq_2 (And.intro @resS.eq_1 (And.intro @resS.eq_2 (And.intro @resSV.eq_1 (And.intro @resSV.eq_2 (And.intro @D.pre.eq_1 (And.intro @D.pre.eq_2 (And.intro @D.nth.eq_1 (And.intro @D.nth.eq_2 (And.intro @D.nth.eq_3 (And.intro @D.size.eq_1 (And.intro @D.size.eq_2 (And.intro @D.size.eq_3 (And.intro @D.size.eq_4 (@D.len.eq_1)))))))))))))))))))))))))))))))))))))))
def wB3 := And.intro @D.len.eq_2 (And.intro @dget.eq_1 (And.intro @dget.eq_2 (And.intro @dget.eq_3 (And.intro @doff.eq_1 (And.intro @doff.eq_2 (And.intro @doff.eq_3 (And.intro @dset.eq_1 (And.intro @dset.eq_2 (And.intro @dset.eq_3 (And.intro @D.setN.eq_1 (And.intro @D.setN.eq_2 (And.intro @D.setN.eq_3 (And.intro @D.noOwn.eq_1 (And.intro @D.noOwn.eq_2 (And.intro @D.noOwn.eq_3 (And.intro @D.noOwn.eq_4 (And.intro @D.noOwn.eq_5 (And.intro @D.noOwn.eq_6 (And.intro @D.unown.eq_1 (And.intro @D.unown.eq_2 (And.intro @D.unown.eq_3 (And.intro @D.unown.eq_4 (And.intro @D.unown.eq_5 (And.intro @D.unown.eq_6 (And.intro @D.app.eq_1 (And.intro @D.app.eq_2 (And.intro @ofL.eq_1 (And.intro @ofL.eq_2 (And.intro @List.replicate.eq_1.{0} (And.intro @List.replicate.eq_2.{0} (And.intro @tagOf.eq_1 (And.intro @mpOf.eq_1 (And.intro @noTag.eq_1 (And.intro @noTag.eq_2 (And.intro @noTag.eq_3 (And.intro @unT.eq_1 (And.intro @unT.eq_2 (And.intro @unT1.eq_1 (@unT1.eq_2)))))))))))))))))))))))))))))))))))))))
def wB4 := And.intro @capsD.eq_1 (And.intro @capsD.eq_2 (And.intro @capsD.eq_3 (And.intro @D.isOne.eq_1 (And.intro @D.isOne.eq_2 (And.intro @D.isOne.eq_3 (And.intro @D.isOne.eq_4 (And.intro @D.caps.eq_1 (And.intro @D.caps.eq_2 (And.intro @D.caps.eq_3 (And.intro @D.list.eq_1 (And.intro @D.list.eq_2 (And.intro @killVs.eq_1 (And.intro @killVs.eq_2 (And.intro @ghAll.eq_1 (And.intro @ghAll.eq_2 (And.intro @ghAt.eq_1 (And.intro @ghAt.eq_2 (And.intro @ghAt.eq_3 (And.intro @ghAt.eq_4 (And.intro @ghAt.eq_5 (And.intro @ghAt.eq_6 (And.intro @ghAt.eq_7 (And.intro @ghAt.eq_8 (And.intro @ghAt.eq_9 (And.intro @opRefs.eq_1 (And.intro @moRefs.eq_1 (And.intro @moRefs.eq_2 (And.intro @refsOf.eq_1 (And.intro @refsOf.eq_2 (And.intro @refsOf.eq_3 (And.intro @eqK.eq_1 (And.intro @eqK.eq_2 (And.intro @eqK.eq_3 (And.intro @eqK.eq_4 (And.intro @eqK.eq_5 (And.intro @hideO.eq_1 (And.intro @hideO.eq_2 (And.intro @showO.eq_1 (@showO.eq_2)))))))))))))))))))))))))))))))))))))))
def wB5 := And.intro @hideOK.eq_1 (And.intro @showE.eq_1 (And.intro @showE.eq_2 (And.intro @backS.eq_1 (And.intro @backS.eq_2 (And.intro @backS.eq_3 (And.intro @backS.eq_4 (And.intro @eqO.eq_1 (And.intro @eqO.eq_2 (And.intro @addR.eq_1 (And.intro @addR.eq_2 (And.intro @tagR.eq_1 (And.intro @tagsTo.eq_1 (And.intro @tagsTo.eq_2 (@tagsTo.eq_3))))))))))))))
def wB := And.intro @wB0 (And.intro @wB1 (And.intro @wB2 (And.intro @wB3 (And.intro @wB4 (@wB5)))))
end Go.Pe
set_option linter.all false
namespace Go.Pe
open Go Go.RowKit
theorem exec_range {P : PG} {s : St} {Q : Exit → St → Prop} {x : MC} (n : Nat) (S : Nat → St) (inv : Nat → Prop) (h0 : Weak s (S 0)) (hi : inv 0)
    (step : ∀ i, i < n → inv i → decide ((i : Int) < (n : Int)) = true → (0 : Int) ≤ (i : Int) → execM P x (S i) (thenQ (fun s' => ∃ y, Weak s' (S y) ∧ (y ≤ n ∧ inv y) ∧ n - y < n - i) Q))
    (done : inv n → decide ((n : Int) < (n : Int)) = false → execM P x (S n) (thenQ (fun s' => ∃ y, Weak s' (S y) ∧ (y ≤ n ∧ inv y) ∧ n - y < n - n) Q)) : execM P (.loop x) s Q := by
  refine exec_loop S (fun i => i ≤ n ∧ inv i) (fun i => n - i) 0 h0 ⟨Nat.zero_le _, hi⟩ ?_
  rintro i ⟨h1, h2⟩
  by_cases h : i < n
  · exact step i h h2 (decide_eq_true (by omega)) (by omega)
  · have e : i = n := by omega
    subst e
    exact done h2 (decide_eq_false (by omega))
theorem next_range {s' : St} {n i : Nat} {S : Nat → St} {inv : Nat → Prop} (hw : Weak s' (S (i + 1))) (hi : i < n) (h : inv (i + 1)) : ∃ y, Weak s' (S y) ∧ (y ≤ n ∧ inv y) ∧ n - y < n - i := ⟨i + 1, hw, ⟨by omega, h⟩, by omega⟩
end Go.Pe
set_option linter.all false
namespace Go.Pe
open Go Go.RowKit
def frzBS (q : Nat) (y : D) : SV → SV
  | .ptr r off p => if r = q then (if off = 0 ∧ p = [] then .d (.ptr y) else .any) else .ptr r off p
  | s => if refA q s then .any else s
def frzBE (q : Nat) (y : D) : Env → Env
  | [] => []
  | (t, s) :: e => (t, frzBS q y s) :: frzBE q y e
theorem look_frzBE (q : Nat) (y : D) : ∀ (e : Env) (t : Nat), look (frzBE q y e) t = frzBS q y (look e t)
  | [], t => by simp [frzBE, look, frzBS, refA, ref0]
  | (k, s) :: e, t => by
    simp only [frzBE, look]
    by_cases h : k = t
    · simp only [h, if_true]
    · simp only [h, if_false]; exact look_frzBE q y e t
theorem frzB {s : St} (q : Nat) {x : D} (hq : s.o[q]? = some (.box x)) : Weak s ⟨frzBE q x.unown s.e, s.o.set q .dead⟩ := by
  intro c C a w hr
  focus
    have hql := lt_of_get hq
    have hlen := hr.wd.len
    obtain ⟨oc, hC⟩ : ∃ oc, C[q]? = some oc := ⟨C[q]'(by omega), List.getElem?_eq_getElem _⟩
    have hCl := lt_of_get hC
    have hnC := nodup_Fps.1 hr.wd.nodup
    let C' := C.set q { oc with fp := [] }
    have get : ∀ (j : Nat) (od : OC), C'[j]? = some od → (j = q ∧ od = { oc with fp := [] }) ∨ (j ≠ q ∧ C[j]? = some od) := by
      intro j od hj
      rw [List.getElem?_set] at hj
      by_cases e : q = j
      · rw [if_pos e, if_pos (by omega)] at hj; injection hj with hj; exact .inl ⟨e.symm, hj.symm⟩
      · rw [if_neg e] at hj; exact .inr ⟨fun h => e h.symm, hj⟩
    have hsub : ∀ b ∈ Fps C', b ∈ Fps C ∧ b ∉ oc.fp := by
      intro b hb
      obtain ⟨j, od, hj, hb'⟩ := mem_Fps.1 hb
      rcases get j od hj with ⟨_, rfl⟩ | ⟨hne, hj⟩
      · cases hb'
      · exact ⟨mem_Fps.2 ⟨j, od, hj, hb'⟩, fun h => hnC.2 j q od oc hne hj hC b hb' h⟩
    have hmem : ∀ b ∈ Fps C', (b ∈ Fps C ∨ w.heap.size ≤ b) ∧ b < w.heap.size := fun b hb => ⟨.inl (hsub b hb).1, hr.wd.lt b (hsub b hb).1⟩
    have hg := Went.of_ext (Ext.refl w) (fun _ => False)
    have hX : ∀ b, (fun _ => False : Nat → Prop) b → b ∈ Fps C := fun b hb => hb.elim
    have hwd : RelW c (s.o.set q .dead) C' w := by
      have hold : ∀ (p r : Nat) (v : Value), (s.o.set q .dead)[p]? = some (.tag r v) → s.o[p]? = some (.tag r v) := by
        intro p r v hp
        rw [List.getElem?_set] at hp
        by_cases e : q = p
        · rw [if_pos e] at hp
          split at hp
          · injection hp with hp; cases hp
          · cases hp
        · rw [if_neg e] at hp; exact hp
      refine hr.wd.upd hg hX (by simp [C', hlen]) ?_ ?_ hmem (fun p r v hp => .inl (hold p r v hp)) (fun p r v od _ h => by
        by_cases e : q = r
        · subst e
          rw [hC] at h
          injection h with h
          subst h
          exact ⟨{ oc with fp := [] }, by rw [List.getElem?_set]; simp [hCl], rfl⟩
        · exact ⟨od, by rw [List.getElem?_set, if_neg e]; exact h, rfl⟩)
      · intro j ob ocj h1 h2
        rcases get j ocj h2 with ⟨e, rfl⟩ | ⟨hne, h3⟩
        · rw [e, List.getElem?_set, if_pos rfl, if_pos hql] at h1
          injection h1 with h1
          subst h1
          exact .inr rfl
        · rw [List.getElem?_set, if_neg (fun h => hne h.symm)] at h1
          exact .inl ⟨h1, h3, fun _ _ h => h⟩
      · refine nodup_Fps.2 ⟨fun j od hj => ?_, fun j i od oe hne hj hi b hb hb' => ?_⟩
        · rcases get j od hj with ⟨_, rfl⟩ | ⟨_, hj⟩
          · exact List.nodup_nil
          · exact hnC.1 j od hj
        · rcases get j od hj with ⟨_, rfl⟩ | ⟨_, hj⟩
          · cases hb
          · rcases get i oe hi with ⟨_, rfl⟩ | ⟨_, hi⟩
            · cases hb'
            · exact hnC.2 j i od oe hne hj hi b hb hb'
    refine ⟨C', hr.tmps, hr.defers, fun t => ?_, hwd, hr.fix⟩
    simp only [look_frzBE]
    have hv := hr.env t
    generalize look s.e t = sv at *
    generalize a.tmps.getD t Go.undef = v at *
    have other : ∀ sv : SV, (∀ xs, sv ≠ .tup xs) → ref0 q sv = false → RelV w (Ms c C) C sv v → RelV w (Ms c C') C' sv v := by
      intro sv hn h0 hv
      refine RelV_of0 (RelV0.upd (X := fun _ => False) hg hX hmem ?_ ?_ ?_)
      · intro r od h1 h2
        have hne : r ≠ q := fun e => by rw [e, h0] at h1; cases h1
        exact ⟨od, by rw [List.getElem?_set, if_neg (fun h => hne h.symm)]; exact h2, rfl, rfl⟩
      · intro r od od' h1 h2 h3 h4
        subst h1
        have hne : r ≠ q := fun e => by rw [e] at h0; simp [ref0] at h0
        rw [List.getElem?_set, if_neg (fun h => hne h.symm), h2] at h4
        injection h4 with h4
        subst h4
        exact ⟨h3, fun h => h⟩
      · cases sv <;> first | exact hv | exact absurd rfl (hn _)
    cases sv with
    | ptr r off p =>
      simp only [frzBS]
      by_cases e : r = q
      · subst e
        rw [if_pos rfl]
        by_cases e2 : off = 0 ∧ p = []
        · rw [if_pos e2]
          obtain ⟨rfl, rfl⟩ := e2
          obtain ⟨oc1, h1, h2⟩ := hv
          rw [hC] at h1
          injection h1 with h1
          subst h1
          obtain ⟨cs, fps, h3, h4, h5⟩ := hr.wd.obs r _ oc hq hC
          subst h2
          have hblk : ¬ Ms c C' oc.blk := by
            rintro (hm | hm)
            · exact hr.wd.apart oc.blk (mem_Fps.2 ⟨r, oc, hC, by rw [h5]; simp⟩) hm
            · exact (hsub oc.blk hm).2 (by rw [h5]; simp)
          refine relV_mk_ptr (rep_unown _ _ _ ?_ ?_ h4) (Holds.of_row h3 hblk)
          · intro b hb
            rcases hb with hb | hb
            · exact .inl hb
            · exact .inr (hsub b hb).1
          · intro b hb hm
            rcases hm with hm | hm
            · exact hr.wd.apart b (mem_Fps.2 ⟨r, oc, hC, by rw [h5]; simp [hb]⟩) hm
            · exact (hsub b hm).2 (by rw [h5]; simp [hb])
        · rw [if_neg e2]; trivial
      · rw [if_neg e]
        exact other _ (fun xs h => by cases h) (by simp [ref0, e]) hv
    | tup xs =>
      simp only [frzBS]
      split
      · trivial
      · rename_i h0
        obtain ⟨vs, k1, k2, k3⟩ := hv
        refine ⟨vs, k1, k2, fun i sx u hsi hu => ?_⟩
        have hx0 : ref0 q sx = false := by
          simp only [refA, List.any_eq_true, not_exists, not_and, Bool.not_eq_true] at h0
          exact h0 sx (List.mem_of_getElem? hsi)
        refine RelV0.upd (X := fun _ => False) hg hX hmem ?_ ?_ (k3 i sx u hsi hu)
        · intro r od h1 h2
          have hne : r ≠ q := fun e => by rw [e, hx0] at h1; cases h1
          exact ⟨od, by rw [List.getElem?_set, if_neg (fun h => hne h.symm)]; exact h2, rfl, rfl⟩
        · intro r od od' h1 h2 h3 h4
          subst h1
          have hne : r ≠ q := fun e => by rw [e] at hx0; simp [ref0] at hx0
          rw [List.getElem?_set, if_neg (fun h => hne h.symm), h2] at h4
          injection h4 with h4
          subst h4
          exact ⟨h3, fun h => h⟩
    | any => trivial
    | undef => exact hv
    | d y => exact other _ (fun xs h => by cases h) rfl hv
    | nil => exact hv
    | own r =>
      simp only [frzBS]
      split
      · trivial
      · rename_i h0; exact other _ (fun xs h => by cases h) (by simpa [refA] using h0) hv
    | el r es i off p =>
      simp only [frzBS]
      split
      · trivial
      · rename_i h0; exact other _ (fun xs h => by cases h) (by simpa [refA] using h0) hv
    | vw r =>
      simp only [frzBS]
      split
      · trivial
      · rename_i h0; exact other _ (fun xs h => by cases h) (by simpa [refA] using h0) hv
    | win r es lo =>
      simp only [frzBS]
      split
      · trivial
      · rename_i h0; exact other _ (fun xs h => by cases h) (by simpa [refA] using h0) hv
theorem frzO {s : St} (q : Nat) {x : D} (hq : s.o[q]? = some (.val x)) : Weak s ⟨frzE q x.unown s.e, s.o.set q .dead⟩ := fun c C a w hr => by
  have h := frz1_sound q hr
  unfold frz1 at h
  rw [hq] at h
  exact h
end Go.Pe
set_option linter.all false
namespace Go.Pe
open Go Go.RowKit
end Go.Pe
set_option linter.all false
namespace Go.Pe
open Go Go.RowKit
section
variable {P : Program} {n r : Nat} {ops : Array Oper} {Q : Exit → Act → World → Prop}
end
section
variable {c : Ctx} {ob : List Ob} {C : List OC} {E : Nat → SV} {a : Act} {w : World} {s : St} {ops : Array Oper} {r n : Nat}
end
section
variable {c : Ctx} {r : Nat} {s : St} {Q : Exit → St → Prop}
end
end Go.Pe
set_option linter.all false
namespace Go.Pe
open Go Go.RowKit
theorem rd_iD {o : List Ob} {K : SV → Prop} {n : Int} : stepRd o none (iD n) K = K (.d (.int .i64 n)) := by simp [iD, stepRd, D.noOwn]
end Go.Pe
