/-
  A layer for walks of Go functions over their compact code (part C): data and where they lie, contracts, the operations, the walk of code. Own work, the same in every claim of this set.
-/
import Derived.Test.YthdkjfcndiaieaaDoorPeB
import Derived.OrdersHeld
import Derived.Deep.LoopGhost
/- A region of the compact code, walked. -/
namespace Go.Pe
open Go Go.RowKit

def guardT (ops : Array Oper) : Option (Nat × Bool) → Option (Option (Nat × Bool))
  | none => some none
  | some (j, b) => ((ops[j]?).bind (·.dst)).map fun t => some (t, b)

def dstOK (n : Nat × Nat) : Option Nat → Bool
  | none => true
  | some t => decide (n.1 ≤ t ∧ t < n.2)

def compOp (P : Program) (n : Nat × Nat) (draw : Bool) (ops : Array Oper) (o : Oper) : Option MOp :=
  if dstOK n o.dst then
    match guardT ops o.guard with
    | none => none
    | some g =>
      if draw then (compP P true o.op).map fun mo => ⟨o.dst, g, false, mo⟩
      else match compE P o.op with
        | some mo => some ⟨o.dst, g, true, mo⟩
        | none => (compP P true o.op).map fun mo => ⟨o.dst, g, false, mo⟩
  else none

def compOps (P : Program) (n : Nat × Nat) (draw : Bool) (ops : Array Oper) : List Oper → Option (List MOp)
  | [] => some []
  | o :: os => match compOp P n draw ops o, compOps P n draw ops os with
    | some m, some ms => some (m :: ms)
    | _, _ => none

def stepO (P : PG) (s : St) (eff : Bool) (mo : MO) (K : SV → St → Prop) : Prop :=
  match eff with
  | true => stepE P s mo K
  | false => stepP P s.o (look s.e) mo fun sv => K sv s

/-- the walk of a region. -/
def execR (P : PG) : List MOp → St → (St → Prop) → Prop
  | [], s, K => K s
  | o :: os, s, K =>
    match o.g with
    | none => stepO P s o.eff o.op fun sv s' => execR P os ⟨putE s'.e o.dst sv, s'.o⟩ K
    | some (t, want) => match look s.e t with
      | .d (.bool b) => (b = want → stepO P s o.eff o.op fun sv s' => execR P os ⟨putE s'.e o.dst sv, s'.o⟩ K) ∧ (b = !want → execR P os ⟨putE s.e o.dst .undef, s.o⟩ K)
      | .undef => execR P os ⟨putE s.e o.dst .undef, s.o⟩ K
      | _ => False

section
variable {c : Ctx} {C : List OC} {ops : Array Oper}

theorem putF_look (e : Env) (dst : Option Nat) (s : SV) : putF (look e) dst s = look (putE e dst s) := by
  funext t
  rw [look_put]
  cases dst with
  | none => rfl
  | some d => simp only [putF, Option.some.injEq]

theorem compOp_dst {draw : Bool} {o : Oper} {m : MOp} (h : compOp c.P c.nn draw ops o = some m) : m.dst = o.dst ∧ guardT ops o.guard = some m.g ∧ ∀ d, o.dst = some d → c.lo ≤ d ∧ d < c.n := by
  unfold compOp at h
  split at h
  · rename_i hd
    have hd' : ∀ d, o.dst = some d → c.lo ≤ d ∧ d < c.n := by
      intro d hd2; rw [hd2] at hd; exact of_decide_eq_true hd
    split at h
    · cases h
    · rename_i g hg
      split at h
      · obtain ⟨mo, _, rfl⟩ := Option.map_eq_some_iff.1 h; exact ⟨rfl, hg, hd'⟩
      · split at h
        · injection h with h; subst h; exact ⟨rfl, hg, hd'⟩
        · obtain ⟨mo, _, rfl⟩ := Option.map_eq_some_iff.1 h; exact ⟨rfl, hg, hd'⟩
  · cases h

def wantG (g : Option (Nat × Bool)) (E : Nat → SV) : Option Bool :=
  match g with
  | none => some true
  | some (t, want) => match E t with
    | .d (.bool b) => some (b == want)
    | .undef => some false
    | _ => none

/-- the guard, abstract and in the model. -/
theorem wantS_guard {o : Oper} {g : Option (Nat × Bool)} {E : Nat → SV} (h : guardT ops o.guard = some g) : wantS ops o E = wantG g E := by
  unfold wantS
  cases hg : o.guard with
  | none => rw [hg] at h; injection h with h; subst h; rfl
  | some p =>
    obtain ⟨j, b⟩ := p
    rw [hg] at h
    simp only [guardT, Option.map_eq_some_iff] at h
    obtain ⟨t, ht, rfl⟩ := h
    simp only [ht, wantG]
    cases E t with
    | d x => cases x <;> rfl
    | _ => rfl

theorem lex_of_exec : ∀ (os : List Oper) (ms : List MOp) (s : St) (K : St → Prop), compOps c.P c.nn true ops os = some ms → execR c.G ms s K →
    wpLex c s.o C ops (fun E => ∃ e', K ⟨e', s.o⟩ ∧ E = look e') os (look s.e)
  | [], ms, s, K, h, hx => by
    injection h with h
    subst h
    exact ⟨s.e, hx, rfl⟩
  | o :: os, ms, s, K, h, hx => by
    unfold compOps at h
    split at h
    · rename_i m ms' h1 h2
      injection h with h
      subst h
      obtain ⟨hd, hg, _⟩ := compOp_dst h1
      have heff : m.eff = false ∧ compP c.P true o.op = some m.op := by
        unfold compOp at h1
        split at h1
        · split at h1
          · cases h1
          · simp only [if_true] at h1
            obtain ⟨mo, hmo, rfl⟩ := Option.map_eq_some_iff.1 h1
            exact ⟨rfl, hmo⟩
        · cases h1
      have hw := wantS_guard (E := look s.e) hg
      have yes : wantS ops o (look s.e) = some true → (stepO c.G s m.eff m.op fun sv s' => execR c.G ms' ⟨putE s'.e m.dst sv, s'.o⟩ K) →
          ∃ s_1, YS c s.o C ops o (look s.e) s_1 ∧ wpLex c s.o C ops (fun E => ∃ e', K ⟨e', s.o⟩ ∧ E = look e') os (putF (look s.e) o.dst s_1) := by
        intro hwt hs
        rw [heff.1] at hs
        simp only [stepO] at hs
        obtain ⟨sv, hK, hy⟩ := stepP_sound (c := c) (C := C) heff.2 hs
        refine ⟨sv, .inl ⟨hwt, hy⟩, ?_⟩
        rw [putF_look, ← hd]
        exact lex_of_exec os ms' ⟨putE s.e m.dst sv, s.o⟩ K h2 hK
      have no : wantS ops o (look s.e) = some false → execR c.G ms' ⟨putE s.e m.dst .undef, s.o⟩ K →
          ∃ s_1, YS c s.o C ops o (look s.e) s_1 ∧ wpLex c s.o C ops (fun E => ∃ e', K ⟨e', s.o⟩ ∧ E = look e') os (putF (look s.e) o.dst s_1) := by
        intro hwt hs
        refine ⟨.undef, .inr ⟨hwt, rfl⟩, ?_⟩
        rw [putF_look, ← hd]
        exact lex_of_exec os ms' ⟨putE s.e m.dst .undef, s.o⟩ K h2 hs
      unfold execR at hx
      show ∃ s_1, YS c s.o C ops o (look s.e) s_1 ∧ _
      split at hx
      · rename_i hgn
        rw [hgn] at hw
        simp only [wantG] at hw
        exact yes hw hx
      · rename_i t want hgs
        rw [hgs] at hw
        simp only [wantG] at hw
        split at hx
        · rename_i b hb
          rw [hb] at hw
          simp only [] at hw
          by_cases e : b = want
          · exact yes (by rw [hw, e]; simp) (hx.1 e)
          · have e' : b = !want := by cases b <;> cases want <;> simp_all
            exact no (by rw [hw, e']; cases want <;> rfl) (hx.2 e')
        · rename_i hb
          rw [hb] at hw
          exact no hw hx
        · exact hx.elim
    · cases h

theorem Rel.done {s st : St} {C' : List OC} {a : Act} {w w' : World} {o : Oper} {sv : SV} {v : Value} (h : Rel c s C a w) (hd : ∀ d, o.dst = some d → c.lo ≤ d ∧ d < c.n) (hv : RelV w' (Ms c C') C' sv v) (hw : RelW c st.o C' w') (he : EnvR w' c C' st.e a) :
    Rel c ⟨putE st.e o.dst sv, st.o⟩ C' (a.put o.dst v) w' where
  tmps := by rw [put_size]; exact h.tmps
  defers := by rw [put_defers]; exact h.defers
  env := fun t => by
    rw [look_put, put_getD _ _ _ _ (by rw [h.tmps]; exact fun d e => (hd d e).2)]
    by_cases e : o.dst = some t
    · simp only [e, if_true]; exact hv
    · simp only [e, if_false]; exact he t
  wd := hw
  fix := put_fix h.tmps hd h.fix

theorem Rel.relE {s : St} {a : Act} {w : World} (h : Rel c s C a w) : RelE c s.o C (look s.e) a w := ⟨h.tmps, h.defers, h.env, h.wd, h.fix⟩

theorem wpList_of_exec {Q : Exit → Act → World → Prop} {K : St → Prop} (hQ : ∀ s C a w, Rel c s C a w → K s → Q .normal a w) : ∀ (os : List Oper) (ms : List MOp) (s : St) (C : List OC) (a : Act) (w : World), compOps c.P c.nn false ops os = some ms → Rel c s C a w → execR c.G ms s K →
    wpList c.P ops Q os a w
  | [], ms, s, C, a, w, h, hr, hx => by
    injection h with h
    subst h
    exact hQ _ _ _ _ hr hx
  | o :: os, ms, s, C, a, w, h, hr, hx => by
    unfold compOps at h
    split at h
    · rename_i m ms' h1 h2
      injection h with h
      subst h
      obtain ⟨hd, hg, hdn⟩ := compOp_dst h1
      have hw := wantS_guard (E := look s.e) hg
      have yes : wantS ops o (look s.e) = some true → (stepO c.G s m.eff m.op fun sv s' => execR c.G ms' ⟨putE s'.e m.dst sv, s'.o⟩ K) → wpList c.P ops Q (o :: os) a w := by
        intro hwt hs
        have hwm := wantS_wanted hr.relE hwt
        simp only [wpList, hwm, if_true]
        left
        have goOn : ∀ (R : Exit → Act → World → Prop), o.wp c.P a w (fun a' w' => ∃ s' C', execR c.G ms' s' K ∧ Rel c s' C' a' w') (fun _ _ _ => False) → o.wp c.P a w (wpList c.P ops Q os) R := by
          intro R h3
          unfold Oper.wp at h3 ⊢
          generalize (execOp a.eval o).run c.P w = r at *
          have fin : ∀ a' w', (∃ s' C', execR c.G ms' s' K ∧ Rel c s' C' a' w') → wpList c.P ops Q os a' w' := by
            rintro a' w' ⟨s', C', h4, h5⟩
            exact wpList_of_exec hQ os ms' s' C' a' w' h2 h5 h4
          cases r with
          | ok n w' =>
            cases n <;> simp only [Oper.upon] at h3 ⊢ <;> first
              | exact fin _ _ h3
              | exact h3.elim
              | skip
            · exact h3.mono fun e w'' he => by
                cases e with
                | returned v => exact fin _ _ he
                | panicked ch => exact he.elim
                | outgrown => obtain ⟨_, _, he⟩ := he; exact he.elim
            · exact h3.mono fun v w'' he => fin _ _ he
          | halt x w' =>
            cases x <;> simp only [Oper.upon] at h3 <;> exact h3.elim
        apply goOn
        unfold compOp at h1
        split at h1
        · split at h1
          · cases h1
          · simp only [Bool.false_eq_true, if_false] at h1
            split at h1
            · rename_i mo hmo
              injection h1 with h1
              subst h1
              simp only [stepO] at hs
              refine Oper.wp_mono ?_ (stepE_sound hr hmo hs)
              rintro a' w' ⟨sv, st, C', v, hK, rfl, hv, hw', he⟩
              exact ⟨_, C', hK, hr.done hdn hv hw' he⟩
            · obtain ⟨mo, hmo, rfl⟩ := Option.map_eq_some_iff.1 h1
              simp only [stepO] at hs
              obtain ⟨sv, hK, hy⟩ := stepP_sound (c := c) (C := C) hmo hs
              refine Oper.wp_mono ?_ (hy a w hr.wd (fun t _ => hr.env t))
              rintro a' w' ⟨v, rfl, hv, hx2⟩
              exact ⟨_, C, hK, hr.put hx2 hdn hv⟩
        · cases h1
      have no : wantS ops o (look s.e) = some false → execR c.G ms' ⟨putE s.e m.dst .undef, s.o⟩ K → wpList c.P ops Q (o :: os) a w := by
        intro hwt hs
        have hwm := wantS_wanted hr.relE hwt
        simp only [wpList, hwm, Bool.false_eq_true, if_false]
        refine wpList_of_exec hQ os ms' _ C _ w h2 (hr.put (sv := .undef) (dst := o.dst) (Ext.refl w) hdn rfl) ?_
        rw [← hd]; exact hs
      unfold execR at hx
      split at hx
      · rename_i hgn
        rw [hgn] at hw
        simp only [wantG] at hw
        exact yes hw hx
      · rename_i t want hgs
        rw [hgs] at hw
        simp only [wantG] at hw
        split at hx
        · rename_i b hb
          rw [hb] at hw
          simp only [] at hw
          by_cases e : b = want
          · exact yes (by rw [hw, e]; simp) (hx.1 e)
          · have e' : b = !want := by cases b <;> cases want <;> simp_all
            exact no (by rw [hw, e']; cases want <;> rfl) (hx.2 e')
        · rename_i hb
          rw [hb] at hw
          exact no hw hx
        · exact hx.elim
    · cases h
end
end Go.Pe

/- Operations that read, and what of memory they look at: what they yield in every world that keeps it. -/
set_option linter.all false
namespace Go.Pe
open Go Go.RowKit

/-- a block that may be looked at: nobody's among those that the call writes, or one of the objects `R`. -/
def okB (w : World) (c : Ctx) (C : List OC) (R : List Nat) (b : Nat) : Prop := b < w.heap.size ∧ (¬ Ms c C b ∨ ∃ r ∈ R, ∃ oc, C[r]? = some oc ∧ b ∈ oc.fp)
/-- the objects that an address leads into. -/
def refsOf : SV → List Nat
  | .ptr r _ _ => [r]
  | .el r _ _ _ _ => [r]
  | _ => []
theorem cell_same {w w' : World} {a : Addr} (h : w'.heap[a.block]? = w.heap[a.block]?) : w'.cell? a = w.cell? a := by
  unfold World.cell?
  rw [h]

section
variable {c : Ctx} {ob : List Ob} {C : List OC} {K : SV → Prop} {w : World}
theorem stepRd_soundB {P : Program} {t : TypeId} {agg : Option Nat} {y : D} (hl : LdOK P t agg) (h : stepRd ob agg y K) : ∃ s, K s ∧ ∀ (w : World) (M : Nat → Prop) (ad : Addr) (ds : List Value), RelW c ob C w →
    (∃ f0, y.rep w M ds f0) → (ds = [] ∨ ∀ j u, ds[j]? = some u → w.cell? (ad.add j) = some u) → ∃ v, (Instr.loadAt t (.pointer (some ad))).run P w = .ok v w ∧ RelV w M C s v ∧ ∀ w' : World, (∀ j u, ds[j]? = some u → w'.cell? (ad.add j) = some u) → (Instr.loadAt t (.pointer (some ad))).run P w' = .ok v w' := by
  cases agg with
  | none =>
    by_cases hlk : ∃ q v, y = .lnk q v
    · obtain ⟨q, v, rfl⟩ := hlk
      obtain ⟨r, h1, hK⟩ := h
      refine ⟨_, hK, fun w M ad ds hw ⟨f0, hr⟩ hc => ?_⟩
      obtain ⟨rfl, _, _⟩ := hr
      rcases hc with hc | hc
      · cases hc
      · have h0 := hc 0 v rfl
        obtain ⟨d, hu, hd⟩ := hl
        obtain ⟨oc, h2, h3⟩ := hw.tags q r v h1
        exact ⟨v, run_ld_one hu hd (by simpa [Addr.add] using h0), ⟨oc, h2, h3.symm⟩, fun w' hk => run_ld_one hu hd (by simpa [Addr.add] using hk 0 v rfl)⟩
    have hy : y.noOwn = true ∧ K (.d y) ∧ (∀ w M ds f0, y.rep w M ds f0 → ds.length = 1) ∧ (∀ cs, pack y cs = cs.headD Go.undef) := by
      cases y <;> simp only [stepRd] at h <;> first
        | exact h.elim
        | exact ⟨h.1, h.2, fun w M ds f0 hr => rep_length _ _ _ hr, fun _ => rfl⟩
        | exact absurd ⟨_, _, rfl⟩ hlk
    obtain ⟨hn, hK, hlen, hpk⟩ := hy
    refine ⟨_, hK, fun w M ad ds _ ⟨f0, hr⟩ hc => ?_⟩
    have h1 := hlen _ _ _ _ hr
    have hf := rep_noOwn _ _ _ hn hr
    subst hf
    match ds, h1 with
    | [u], _ =>
      rcases hc with hc | hc
      · cases hc
      · have h0 := hc 0 u rfl
        obtain ⟨d, hu, hd⟩ := hl
        refine ⟨u, run_ld_one hu hd (by simpa [Addr.add] using h0), ⟨[u], hr, by rw [hpk]; rfl⟩, fun w' hk => run_ld_one hu hd (by simpa [Addr.add] using hk 0 u rfl)⟩
  | some n =>
    cases y with
    | st xs =>
      obtain ⟨hs, hn, hK⟩ := h
      refine ⟨_, hK, fun w M ad ds _ ⟨f0, hr⟩ hc => ?_⟩
      have hf := rep_noOwn (.st xs) _ _ hn hr
      subst hf
      obtain ⟨fs, i, hu, hi, hsz⟩ := hl
      have hcc : ∀ j u, ds[j]? = some u → w.cell? (ad.add j) = some u := by
        rcases hc with hc | hc
        · intro j u hu; rw [hc] at hu; simp at hu
        · exact hc
      exact ⟨.agg ds.toArray, run_ld_agg hu hi (by rw [rep_length (.st xs) _ _ hr, hsz]; exact hs) hcc, ⟨ds, hr, rfl⟩, fun w' hk => run_ld_agg hu hi (by rw [rep_length (.st xs) _ _ hr, hsz]; exact hs) hk⟩
    | _ => exact h.elim

theorem stepLd_soundB {t : TypeId} {agg : Option Nat} {x : SV} (hl : LdOK c.P t agg) (h : stepLd ob agg x K) : ∃ s, K s ∧ ∀ (w : World) (u : Value), RelW c ob C w → RelV w (Ms c C) C x u →
    ∃ v, (Instr.loadAt t u).run c.P w = .ok v w ∧ RelV w (Ms c C) C s v ∧ ∃ B : Nat → Prop, (∀ b, B b → okB w c C (refsOf x) b) ∧ ∀ w' : World, (∀ b, B b → w'.heap[b]? = w.heap[b]?) → (Instr.loadAt t u).run c.P w' = .ok v w' := by
  unfold stepLd at h
  split at h
  · obtain ⟨s, hK, hs⟩ := stepRd_soundB (c := c) (C := C) hl h
    refine ⟨s, hK, fun w u hw hu => ?_⟩
    obtain ⟨ad, ds, rfl, hr, hh⟩ := relV_ptr hu
    obtain ⟨v, h1, h2, h3⟩ := hs w _ ad ds hw ⟨_, hr⟩ (hh.imp id fun h => h.2.2)
    rcases hh with rfl | ⟨hlt, hn, hcell⟩
    · exact ⟨v, h1, h2, fun _ => False, fun b hb => hb.elim, fun w' _ => h3 w' fun j u hu => by simp at hu⟩
    · exact ⟨v, h1, h2, fun b => b = ad.block, fun b hb => by subst hb; exact ⟨hlt, .inl hn⟩, fun w' hk => h3 w' fun j u hu => (cell_same (by rw [add_block]; exact hk _ rfl)).trans (hcell j u hu)⟩
  · rename_i r off p
    obtain ⟨z, hz, ho, y, hy, h⟩ := h
    obtain ⟨s, hK, hs⟩ := stepRd_soundB (c := c) (C := C) hl h
    refine ⟨s, hK, fun w u hw hu => ?_⟩
    obtain ⟨oc, hC, rfl⟩ := hu
    obtain ⟨cs, fps, ⟨cur, E, h1, h2, h3⟩, h4, h5⟩ := hw.obs r _ oc hz hC
    obtain ⟨f0, _, hr, hle⟩ := rep_dget p z cs fps y h4 hy
    have hcell : ∀ j u, ((cs.drop (doff p z)).take y.size)[j]? = some u → w.cell? ((⟨oc.blk, off, none⟩ : Addr).add j) = some u := by
      intro j u hu
      rw [add_lit, h1.cell (off + j)]
      rw [List.getElem?_take] at hu
      split at hu
      · rw [List.getElem?_drop, ho] at hu
        rw [← Array.getElem?_toList]
        have : cur.toList = cs := by rw [← h3, List.take_of_length_le (by simp [h2])]
        rw [this]; exact hu
      · cases hu
    obtain ⟨v, k1, k2, k3⟩ := hs w _ _ _ hw ⟨_, hr⟩ (.inr hcell)
    have hbm : oc.blk ∈ oc.fp := by rw [h5]; simp
    exact ⟨v, k1, k2, fun b => b = oc.blk, fun b hb => by subst hb; exact ⟨hw.lt _ (mem_Fps.2 ⟨r, oc, hC, hbm⟩), .inr ⟨r, by simp [refsOf], oc, hC, hbm⟩⟩, fun w' hk => k3 w' fun j u hu => (cell_same (by rw [add_block]; exact hk _ rfl)).trans (hcell j u hu)⟩
  · rename_i r es i off p
    obtain ⟨xs, z, hz, hi, ho, y, hy, h⟩ := h
    obtain ⟨s, hK, hs⟩ := stepRd_soundB (c := c) (C := C) hl h
    refine ⟨s, hK, fun w u hw hu => ?_⟩
    obtain ⟨oc, g, n, cp, hC, hov, rfl⟩ := hu
    obtain ⟨cs, h1, h2⟩ := hw.obs r _ oc hz hC
    rw [hov] at h2
    obtain ⟨hL, a', c', ds, fps, e1, e2, h3, h4⟩ := h1
    rw [e1] at h2
    simp only [pack, List.headD_cons] at h2
    injection h2 with ha hn hc
    subst ha hn hc
    simp only [if_true] at h4
    obtain ⟨l, rfl⟩ := ofL_of_isL _ hL
    rw [nth_ofL] at hi
    obtain ⟨f1, f, f2, _, _, hr, _⟩ := rep_get ((isL_ofL l).1 hL) h3 hi
    obtain ⟨f0, _, hr2, hle⟩ := rep_dget p z _ f y hr hy
    rcases h4 with ⟨h4, _⟩ | ⟨g', h4, ⟨cur, E, h5, h6, h7⟩, hfp⟩
    · have := lt_of_get hi; rw [len_ofL] at e2; omega
    · injection h4 with h4
      injection h4 with h4
      subst h4
      have hcell : ∀ j u, ((((ds.drop (i * es)).take es).drop (doff p z)).take y.size)[j]? = some u → w.cell? ((⟨g, i * es + off, none⟩ : Addr).add j) = some u := by
        intro j u hu
        rw [add_lit, h5.cell (i * es + off + j)]
        rw [List.getElem?_take] at hu
        split at hu
        · rw [List.getElem?_drop, ho, List.getElem?_take] at hu
          split at hu
          · rw [List.getElem?_drop, ← h7, List.getElem?_take] at hu
            split at hu
            · rw [← Array.getElem?_toList, show i * es + off + j = i * es + (off + j) by omega]; exact hu
            · cases hu
          · cases hu
        · cases hu
      obtain ⟨v, k1, k2, k3⟩ := hs w _ _ _ hw ⟨_, hr2⟩ (.inr hcell)
      have hbm : g ∈ oc.fp := by rw [hfp]; simp
      exact ⟨v, k1, k2, fun b => b = g, fun b hb => by subst hb; exact ⟨hw.lt _ (mem_Fps.2 ⟨r, oc, hC, hbm⟩), .inr ⟨r, by simp [refsOf], oc, hC, hbm⟩⟩, fun w' hk => k3 w' fun j u hu => (cell_same (by rw [add_block]; exact hk _ rfl)).trans (hcell j u hu)⟩
  · exact h.elim
end

/-! ### Computations that look at no memory. -/
/-- if it yields a value, it leaves the world alone and yields the same in every other. -/
def Free {α : Type} (p : Program) (m : Sem α) : Prop := ∀ w r w1, m.run p w = .ok r w1 → w1 = w ∧ ∀ w', m.run p w' = .ok r w'
section
variable {p : Program} {α β : Type}
theorem free_pure (a : α) : Free p (pure a : Sem α) := fun w r w1 h => by
  rw [Sem.run_pure] at h
  injection h with h1 h2
  subst h1 h2
  exact ⟨rfl, fun w' => Sem.run_pure ..⟩
theorem free_bind {m : Sem α} {f : α → Sem β} (h1 : Free p m) (h2 : ∀ a, Free p (f a)) : Free p (m >>= f) := fun w r w1 h => by
  rw [Sem.run_bind] at h
  cases hm : m.run p w with
  | ok a w0 =>
    rw [hm, Result.andThen_ok] at h
    obtain ⟨rfl, h3⟩ := h1 w a w0 hm
    obtain ⟨rfl, h4⟩ := h2 a w0 r w1 h
    exact ⟨rfl, fun w' => by rw [Sem.run_bind, h3 w', Result.andThen_ok, h4 w']⟩
  | halt x w0 => rw [hm] at h; cases h
theorem free_halt (h : Halt) : Free p (Sem.halt h : Sem α) := fun w r w1 e => by cases e
theorem free_stuck (s : String) : Free p (stuck s : Sem α) := free_halt _
theorem free_uns (u : Unsupported) : Free p (unsupported u : Sem α) := free_halt _
theorem free_gp (v : Value) : Free p (goPanic v : Sem α) := free_halt _
theorem free_prog : Free p (program : Sem Program) := fun w r w1 h => by
  cases h
  exact ⟨rfl, fun w' => rfl⟩
/-- it never yields. -/
def Nev (p : Program) (m : Sem α) : Prop := ∀ w r w1, m.run p w ≠ .ok r w1
theorem nev_free {m : Sem α} (h : Nev p m) : Free p m := fun w r w1 e => absurd e (h w r w1)
theorem nev_halt (h : Halt) : Nev p (Sem.halt h : Sem α) := fun w r w1 e => by cases e
theorem nev_bind {m : Sem α} {f : α → Sem β} (h : ∀ a, Nev p (f a)) : Nev p (m >>= f) := fun w r w1 e => by
  rw [Sem.run_bind] at e
  cases hm : m.run p w with
  | ok a w0 => rw [hm, Result.andThen_ok] at e; exact h a _ _ _ e
  | halt x w0 => rw [hm] at e; cases e
theorem nevb {m : Sem α} {f : α → Sem β} (h : Nev p m) : Nev p (m >>= f) := fun w r w1 e => by
  rw [Sem.run_bind] at e
  cases hm : m.run p w with
  | ok a w0 => exact h _ _ _ hm
  | halt x w0 => rw [hm] at e; cases e
theorem nev_rp (e : RuntimeError) : Nev p (runtimePanic e : Sem α) := by
  unfold runtimePanic
  refine nev_bind fun q => ?_
  cases e <;> first | exact nev_halt _ | exact nev_bind fun _ => nev_bind fun _ => nev_halt _
theorem nev_bp (k : IntKind) (x y : Int) (cd : BoundsCode) : Nev p (boundsPanic k x y cd : Sem α) := by
  unfold boundsPanic
  simp only []
  split <;> exact nev_bind fun _ => nev_rp _
theorem free_info (t : TypeId) : Free p (typeInfo t) := by
  unfold typeInfo
  refine free_bind free_prog fun q => ?_
  split
  · exact free_pure _
  · exact free_stuck _
theorem free_size (t : TypeId) : Free p (sizeOf t) := by
  unfold sizeOf
  exact free_bind (free_info t) fun i => free_pure _
theorem free_under (t : TypeId) : Free p (underlying t) := by
  unfold underlying
  refine free_bind free_prog fun q => ?_
  split
  · exact free_pure _
  · exact free_stuck _
theorem free_sure (v : Value) : Free p (Instr.sureAddr v) := by
  unfold Instr.sureAddr
  split
  · exact free_pure _
  · exact free_stuck _
theorem free_asInt (v : Value) : Free p (asIntOf v) := by
  unfold asIntOf
  split
  · exact free_pure _
  · exact free_uns _
  · exact free_stuck _
theorem free_asBool (v : Value) : Free p (asBool v) := by
  unfold asBool
  split
  · exact free_pure _
  · exact free_stuck _
theorem free_bound (v : Value) (n : Nat) (cd : BoundsCode) : Free p (Instr.sliceBound v n cd) := by
  unfold Instr.sliceBound
  refine free_bind (free_asInt v) fun x => ?_
  obtain ⟨k, i⟩ := x
  simp only []
  split
  · exact free_pure _
  · exact nev_free (nev_bp _ _ _ _)
theorem free_bounds (b : Bool) (n cp : Nat) (lo hi : Option Value) : Free p (Instr.sliceBounds b n cp lo hi none) := by
  unfold Instr.sliceBounds
  simp only []
  refine free_bind (free_pure _) fun m => ?_
  cases hi <;> cases lo <;> simp only []
  · exact free_bind (free_pure _) fun _ => free_bind (free_pure _) fun _ => free_pure _
  · exact free_bind (free_pure _) fun _ => free_bind (free_bound _ _ _) fun _ => free_pure _
  · exact free_bind (free_bound _ _ _) fun _ => free_bind (free_pure _) fun _ => free_pure _
  · exact free_bind (free_bound _ _ _) fun _ => free_bind (free_bound _ _ _) fun _ => free_pure _
theorem free_extract (v : Value) (i : Nat) : Free p (Instr.extract v i) := by
  unfold Instr.extract
  split
  · split
    · exact free_pure _
    · exact free_stuck _
  · exact free_stuck _
theorem free_index (t : TypeId) (x i : Value) : Free p (Instr.indexAt t x i) := by
  unfold Instr.indexAt
  refine free_bind (free_asInt i) fun ki => ?_
  obtain ⟨k, n⟩ := ki
  simp only []
  refine free_bind (free_under t) fun d => ?_
  split
  · refine free_bind (free_sure _) fun a => ?_
    refine free_bind (free_pure _) fun q => ?_
    obtain ⟨base, len, elem⟩ := q
    simp only []
    refine free_bind (free_under t) fun d2 => ?_
    cases base with
    | none => exact nev_free (nev_bp _ _ _ _)
    | some ad =>
      simp only []
      split
      · exact free_bind (free_size _) fun _ => free_pure _
      · repeat' (first
          | exact free_uns _
          | exact nev_free (nev_bp _ _ _ _)
          | split)
  · refine free_bind (free_pure _) fun q => ?_
    obtain ⟨base, len, elem⟩ := q
    simp only []
    refine free_bind (free_under t) fun d2 => ?_
    cases base with
    | none => exact nev_free (nev_bp _ _ _ _)
    | some ad =>
      simp only []
      split
      · exact free_bind (free_size _) fun _ => free_pure _
      · repeat' (first
          | exact free_uns _
          | exact nev_free (nev_bp _ _ _ _)
          | split)
  · exact nev_free (nevb (nev_halt _))
theorem free_slice {t : TypeId} {d : TypeDesc} (ht : p.underlying t = some d) (hd : d = .string ∨ ∃ e, d = .slice e) (x : Value) (lo hi : Option Value) : Free p (Instr.sliceAt t x lo hi none) := by
  have e : ∀ {α : Type} (f : TypeDesc → Sem α), Free p (f d) → Free p (underlying t >>= f) := fun f hf w r w1 h => by
    rw [Sem.run_bind, run_underlying ht, Result.andThen_ok] at h
    obtain ⟨h1, h2⟩ := hf w r w1 h
    exact ⟨h1, fun w' => by rw [Sem.run_bind, run_underlying ht, Result.andThen_ok]; exact h2 w'⟩
  unfold Instr.sliceAt
  refine e _ ?_
  rcases hd with rfl | ⟨el, rfl⟩
  · simp only []
    unfold Instr.slice
    simp only []
    refine e _ ?_
    cases x <;> simp only [Option.isSome_none, Bool.false_eq_true, if_false] <;> first
      | exact free_stuck _
      | exact free_bind (free_bounds _ _ _ _ _) fun b => free_pure _
      | exact free_bind (free_pure _) fun _ => free_bind (free_bounds _ _ _ _ _) fun b => free_pure _
  · simp only []
    unfold Instr.slice
    simp only []
    refine e _ ?_
    cases x <;> simp only [] <;> first
      | exact free_stuck _
      | exact free_bind (free_bounds _ _ _ _ _) fun b => free_bind (free_size _) fun _ => free_pure _
theorem free_len {t ty : TypeId} {d : TypeDesc} (ht : p.underlying t = some d) (hd : d = .string ∨ ∃ e, d = .slice e) (x : Value) : Free p (Builtin.len_ #[t] ty #[x]) := by
  have e : ∀ {α : Type} (f : TypeDesc → Sem α), Free p (f d) → Free p (underlying t >>= f) := fun f hf w r w1 h => by
    rw [Sem.run_bind, run_underlying ht, Result.andThen_ok] at h
    obtain ⟨h1, h2⟩ := hf w r w1 h
    exact ⟨h1, fun w' => by rw [Sem.run_bind, run_underlying ht, Result.andThen_ok]; exact h2 w'⟩
  unfold Builtin.len_
  simp only [List.getElem?_toArray, List.getElem?_cons_zero]
  refine e _ ?_
  rcases hd with rfl | ⟨el, rfl⟩ <;> cases x <;> first | exact free_pure _ | exact free_stuck _
theorem free_field {s : TypeId} {fs : Array Field} {fd : Field} {f : Nat} {inf : TypeInfo} (ht : p.underlying s = some (.struct fs)) (hf : fs[f]? = some fd) (hi : p.info? fd.type = some inf) (hz : inf.size ≠ 0) (x : Value) : Free p (Instr.fieldAt s x f) := by
  by_cases hx : ∃ ad, x = .pointer (some ad)
  · obtain ⟨ad, rfl⟩ := hx
    have hrun : ∀ w : World, (Instr.fieldAt s (.pointer (some ad)) f).run p w = .ok (.pointer (some (ad.add fd.offset))) w := by
      intro w
      simp [Instr.fieldAt, run_underlying ht, hf, Instr.sureAddr, fieldPlace, sizeOf, typeInfo, hi, hz]
    intro w r w1 h
    rw [hrun] at h
    injection h with h1 h2
    subst h1 h2
    exact ⟨rfl, hrun⟩
  · refine nev_free fun w r w1 h => ?_
    obtain ⟨e0, this⟩ : ∃ e : String, (Instr.sureAddr x : Sem Addr) = stuck e := by
      unfold Instr.sureAddr
      split
      · rename_i a; exact absurd ⟨_, rfl⟩ hx
      · exact ⟨_, rfl⟩
    simp [Instr.fieldAt, run_underlying ht, hf, this, stuck] at h
theorem free_arith (op : BinOp) (k : IntKind) (a b : Int) : Free p (Op.intArith op k a b) := by
  unfold Op.intArith; split <;> first | exact free_pure _ | exact free_stuck _
theorem free_div (op : BinOp) (k : IntKind) (a b : Int) : Free p (Op.intDiv op k a b) := by
  unfold Op.intDiv
  split
  · exact nev_free (nev_rp _)
  · split <;> first | exact free_pure _ | exact free_stuck _
theorem free_bits (op : BinOp) (k : IntKind) (a b : Int) : Free p (Op.intBits op k a b) := by
  unfold Op.intBits; simp only []; split <;> first | exact free_pure _ | exact free_stuck _
theorem free_cmp (op : BinOp) (a b : Int) : Free p (Op.intCmp op a b) := by
  unfold Op.intCmp; split <;> first | exact free_pure _ | exact free_stuck _
theorem free_shift (op : BinOp) (k : IntKind) (a : Int) (k' : IntKind) (b : Int) : Free p (Op.shift op k a k' b) := by
  unfold Op.shift
  split
  · exact nev_free (nev_rp _)
  · simp only []; split <;> first | exact free_pure _ | exact free_stuck _
theorem free_str (op : BinOp) (a b : ByteArray) : Free p (Op.stringOp op a b) := by
  unfold Op.stringOp
  simp only []
  split <;> first | exact free_pure _ | exact free_stuck _ | (split <;> first | exact free_pure _ | exact free_uns _ | exact free_stuck _ | exact free_halt _)
theorem free_unary (op : UnOp) (x : Value) : Free p (Op.unary op x) := by
  unfold Op.unary
  split <;> first | exact free_arith _ _ _ _ | exact free_bits _ _ _ _ | exact free_pure _ | exact free_uns _ | exact free_stuck _
theorem free_conv {src dst : TypeId} {k j : IntKind} (h1 : p.underlying src = some (.int j)) (h2 : p.underlying dst = some (.int k)) (n : Int) : Free p (convert src dst (.int j n)) := by
  intro w r w1 h
  simp only [convert, Sem.run_bind, run_underlying h1, run_underlying h2, Result.andThen_ok, Conv.intToInt, Sem.run_pure] at h
  injection h with h3 h4
  subst h3 h4
  exact ⟨rfl, fun w' => by simp only [convert, Sem.run_bind, run_underlying h1, run_underlying h2, Result.andThen_ok, Conv.intToInt, Sem.run_pure]⟩
end
end Go.Pe

/- The reading operations, run by run. -/
set_option linter.all false
namespace Go.Pe
open Go Go.RowKit
section
end
/-- the operations that a plan may take first. -/
def quietMO : MO → Bool
  | .mov _ => true
  | .pick _ _ _ => true
  | .bin _ _ _ => true
  | .un _ _ => true
  | .ld _ _ => true
  | .fa _ _ _ => true
  | .ia _ _ _ => true
  | .len _ _ => true
  | .ext _ _ => true
  | .sls _ _ _ => true
  | .slx _ _ _ _ => true
  | _ => false
def YRun (c : Ctx) (ob : List Ob) (C : List OC) (o : Oper) (E : Nat → SV) (s : SV) : Prop :=
  ∀ a w, RelW c ob C w → OpRel c C o E a w → ∃ v, (execOp a.eval o).run c.P w = .ok (.value v) w ∧ RelV w (Ms c C) C s v
section
variable {c : Ctx} {ob : List Ob} {C : List OC} {o : Oper} {E : Nat → SV} {K : SV → Prop} {mo : MO}
theorem stepP_run (hq : quietMO mo = true) (hc : compP c.P true o.op = some mo) (h : stepP c.G ob E mo K) : ∃ s, K s ∧ YRun c ob C o E s := by
  obtain ⟨dst, op, ty, pos, after, guard⟩ := o
  simp only at hc
  unfold compP at hc
  split at hc
  case h_1 x | h_2 x =>
    obtain ⟨p, hp, rfl⟩ := Option.map_eq_some_iff.1 hc
    exact ⟨_, h, fun a w hw ho => ⟨a.eval x, rfl, orel ho (by simp [Op.operands]) hp⟩⟩
  case h_3 cc x y =>
    split at hc
    · rename_i p q r h1 h2 h3
      injection hc with hc
      subst hc
      simp only [stepP] at h
      split at h
      · rename_i t ht
        cases t with
        | true =>
          refine ⟨_, h.1 rfl, fun a w hw ho => ⟨a.eval x, ?_, orel ho (by simp [Op.operands]) h2⟩⟩
          have := orel ho (x := cc) (by simp [Op.operands]) h1
          rw [ht] at this
          simp [execOp, relV_bool.1 this, asBool]
        | false =>
          refine ⟨_, h.2 rfl, fun a w hw ho => ⟨a.eval y, ?_, orel ho (by simp [Op.operands]) h3⟩⟩
          have := orel ho (x := cc) (by simp [Op.operands]) h1
          rw [ht] at this
          simp [execOp, relV_bool.1 this, asBool]
      · exact h.elim
    · cases hc
  case h_4 t x y yt =>
    unfold compShr at hc
    split at hc
    · rename_i k p q hu h1 h2
      injection hc with hc
      subst hc
      obtain ⟨s, hK, hs⟩ := stepShr_sound (c := c) (C := C) (t := t) h
      refine ⟨s, hK, fun a w hw ho => ?_⟩
      obtain ⟨v, hv, hr⟩ := hs w _ _ _ x y (orel ho (x := x) (by simp [Op.operands]) h1) (orel ho (x := y) (by simp [Op.operands]) h2)
      exact ⟨v, by simp only [execOp, Sem.run_bind] at hv ⊢; rw [hv]; rfl, hr⟩
    · cases hc
  case h_5 bop t x y yt hne =>
    unfold compBin at hc
    split at hc
    · rename_i k p q hu h1 h2
      injection hc with hc
      subst hc
      simp only [stepP, stepBin] at h
      split at h
      · rename_i k1 a1 k2 a2 e1 e2
        obtain ⟨rfl, h⟩ := h
        obtain ⟨s, hK, hs⟩ := stepInt_sound (c := c) (C := C) h
        refine ⟨s, hK, fun a w hw ho => ?_⟩
        have r1 := orel ho (x := x) (by simp [Op.operands]) h1
        have r2 := orel ho (x := y) (by simp [Op.operands]) h2
        rw [e1] at r1
        rw [e2] at r2
        obtain ⟨v, hv, hr⟩ := hs w (Ms c C) t x y
        rw [← relV_int.1 r1, ← relV_int.1 r2] at hv
        exact ⟨v, by simp only [execOp, Sem.run_bind] at hv ⊢; rw [hv]; rfl, hr⟩
      · rename_i a1 a2 e1 e2
        obtain ⟨s, hK, hs⟩ := stepStr_sound (c := c) (C := C) h
        refine ⟨s, hK, fun a w hw ho => ?_⟩
        have r1 := orel ho (x := x) (by simp [Op.operands]) h1
        have r2 := orel ho (x := y) (by simp [Op.operands]) h2
        rw [e1] at r1
        rw [e2] at r2
        obtain ⟨v, hv, hr⟩ := hs w (Ms c C) t x y
        rw [← relV_str.1 r1, ← relV_str.1 r2] at hv
        exact ⟨v, by simp only [execOp, Sem.run_bind] at hv ⊢; rw [hv]; rfl, hr⟩
      · exact h.elim
    · rename_i p q hu h1 h2
      injection hc with hc
      subst hc
      simp only [stepP, stepBin] at h
      split at h
      · rename_i k1 a1 k2 a2 e1 e2
        obtain ⟨rfl, h⟩ := h
        obtain ⟨s, hK, hs⟩ := stepInt_sound (c := c) (C := C) h
        refine ⟨s, hK, fun a w hw ho => ?_⟩
        have r1 := orel ho (x := x) (by simp [Op.operands]) h1
        have r2 := orel ho (x := y) (by simp [Op.operands]) h2
        rw [e1] at r1
        rw [e2] at r2
        obtain ⟨v, hv, hr⟩ := hs w (Ms c C) t x y
        rw [← relV_int.1 r1, ← relV_int.1 r2] at hv
        exact ⟨v, by simp only [execOp, Sem.run_bind] at hv ⊢; rw [hv]; rfl, hr⟩
      · rename_i a1 a2 e1 e2
        obtain ⟨s, hK, hs⟩ := stepStr_sound (c := c) (C := C) h
        refine ⟨s, hK, fun a w hw ho => ?_⟩
        have r1 := orel ho (x := x) (by simp [Op.operands]) h1
        have r2 := orel ho (x := y) (by simp [Op.operands]) h2
        rw [e1] at r1
        rw [e2] at r2
        obtain ⟨v, hv, hr⟩ := hs w (Ms c C) t x y
        rw [← relV_str.1 r1, ← relV_str.1 r2] at hv
        exact ⟨v, by simp only [execOp, Sem.run_bind] at hv ⊢; rw [hv]; rfl, hr⟩
      · exact h.elim
    · rename_i p q hu h1 h2
      injection hc with hc
      subst hc
      simp only [stepP, stepBB] at h
      split at h
      · rename_i a1 a2 e1 e2
        obtain ⟨s, hK, hs⟩ := stepBool_sound (c := c) (C := C) hu h
        refine ⟨s, hK, fun a w hw ho => ?_⟩
        have r1 := orel ho (x := x) (by simp [Op.operands]) h1
        have r2 := orel ho (x := y) (by simp [Op.operands]) h2
        rw [e1] at r1
        rw [e2] at r2
        obtain ⟨v, hv, hr⟩ := hs w (Ms c C) x y
        rw [← relV_bool.1 r1, ← relV_bool.1 r2] at hv
        exact ⟨v, by simp only [execOp, Sem.run_bind] at hv ⊢; rw [hv]; rfl, hr⟩
      · exact h.elim
    · rename_i ms p q hu h1 h2
      split at hc
      · split at hc
        · rename_i hms
          injection hc with hc
          subst hc
          simp only [stepP] at h
          obtain ⟨s, hK, hs⟩ := stepIe_sound (c := c) (C := C) (by rw [hms]; exact hu) h
          refine ⟨s, hK, fun a w hw ho => ?_⟩
          obtain ⟨v, hv, hr⟩ := hs w (Ms c C) x _ _ _ rfl (orel ho (x := x) (by simp [Op.operands]) h1) (orel ho (x := .const .nilIface) (by simp [Op.operands]) h2)
          exact ⟨v, by simp only [execOp, Sem.run_bind] at hv ⊢; rw [hv]; rfl, hr⟩
        · cases hc
      · cases hc
    · obtain ⟨neg, ks, rfl⟩ := compSq_ok hc
      cases hq
    · cases hc
  case h_6 uop t x =>
    obtain ⟨p, hp, rfl⟩ := Option.map_eq_some_iff.1 hc
    obtain ⟨s, hK, hs⟩ := stepUn_sound (C := C) (c := c) h
    refine ⟨s, hK, fun a w hw ho => ?_⟩
    obtain ⟨v, hv, hr⟩ := hs w _ _ (orel ho (x := x) (by simp [Op.operands]) hp)
    exact ⟨v, by simp only [execOp, Sem.run_bind]; rw [hv]; rfl, hr⟩
  case h_7 x =>
    obtain ⟨p, hp, rfl⟩ := Option.map_eq_some_iff.1 hc
    simp only [stepP] at h
    split at h
    · rename_i y e
      refine ⟨_, h, fun a w hw ho => ?_⟩
      have r := orel ho (x := x) (by simp [Op.operands]) hp
      rw [e] at r
      obtain ⟨ad, ds, hv, h1, h2⟩ := relV_ptr r
      exact ⟨a.eval x, by simp only [execOp, hv]; rfl, r⟩
    · rename_i r off p' e
      refine ⟨_, h, fun a w hw ho => ?_⟩
      have r := orel ho (x := x) (by simp [Op.operands]) hp
      rw [e] at r
      have r' := r
      obtain ⟨oc, h1, hv⟩ := r
      exact ⟨a.eval x, by simp only [execOp, hv]; rfl, r'⟩
    · rename_i r es i off p' e
      refine ⟨_, h, fun a w hw ho => ?_⟩
      have r := orel ho (x := x) (by simp [Op.operands]) hp
      rw [e] at r
      have r' := r
      obtain ⟨oc, g, n, cp, h1, h2, hv⟩ := r
      exact ⟨a.eval x, by simp only [execOp, hv]; rfl, r'⟩
    · rename_i g xs e
      refine ⟨_, h, fun a w hw ho => ?_⟩
      have r := orel ho (x := x) (by simp [Op.operands]) hp
      rw [e] at r
      have r' := r
      obtain ⟨cs, ⟨_, ds, h1, _⟩, hv⟩ := r
      rw [h1] at hv
      exact ⟨a.eval x, by simp only [execOp, hv]; rfl, r'⟩
    · exact h.elim
  case h_8 t x =>
    obtain ⟨agg, p, rfl, hp, hl⟩ := (compLd_ok hc).resolve_right (by rintro ⟨n, p, rfl, _⟩; cases hq)
    obtain ⟨s, hK, hs⟩ := stepLd_sound (C := C) hl h
    refine ⟨s, hK, fun a w hw ho => ?_⟩
    obtain ⟨v, hv, hr⟩ := hs w _ hw (orel ho (x := x) (by simp [Op.operands]) hp)
    exact ⟨v, by simp only [execOp, Sem.run_bind]; rw [hv]; rfl, hr⟩
  case h_9 st x f =>
    unfold compFa at hc
    split at hc
    · rename_i fs p hu hp
      split at hc
      · rename_i fd hf
        split at hc
        · rename_i n hn
          injection hc with hc
          subst hc
          simp only [sizeOfT, Option.map_eq_some_iff] at hn
          obtain ⟨inf, hi, hsz⟩ := hn
          obtain ⟨s, hK, hs⟩ := stepFa_sound (c := c) (C := C) hu hf hi (by omega) h
          refine ⟨s, hK, fun a w hw ho => ?_⟩
          obtain ⟨v, hv, hr⟩ := hs w _ (orel ho (x := x) (by simp [Op.operands]) hp)
          exact ⟨v, by simp only [execOp, Sem.run_bind]; rw [hv]; rfl, hr⟩
        · cases hc
      · cases hc
    · cases hc
  case h_10 t x i =>
    unfold compIa at hc
    split at hc
    · rename_i e p q hu h1 h2
      obtain ⟨n, hn, rfl⟩ := Option.map_eq_some_iff.1 hc
      simp only [sizeOfT, Option.map_eq_some_iff] at hn
      obtain ⟨inf, hi, rfl⟩ := hn
      obtain ⟨s, hK, hs⟩ := stepIa_sound (C := C) hu hi h
      refine ⟨s, hK, fun a w hw ho => ?_⟩
      obtain ⟨v, hv, hr⟩ := hs w _ _ hw (orel ho (x := x) (by simp [Op.operands]) h1) (orel ho (x := i) (by simp [Op.operands]) h2)
      exact ⟨v, by simp only [execOp, Sem.run_bind]; rw [hv]; rfl, hr⟩
    · obtain ⟨n, hn, rfl⟩ := Option.map_eq_some_iff.1 hc
      cases hq
    · cases hc
  case h_11 t x i =>
    unfold compIx at hc
    split at hc
    · rename_i p q hu h1 h2
      injection hc with hc
      subst hc
      obtain ⟨s, hK, hs⟩ := stepIx_sound (c := c) (C := C) hu h
      refine ⟨s, hK, fun a w hw ho => ?_⟩
      obtain ⟨v, hv, hr⟩ := hs w _ _ (orel ho (x := x) (by simp [Op.operands]) h1) (orel ho (x := i) (by simp [Op.operands]) h2)
      exact ⟨v, by simp only [execOp, Sem.run_bind]; rw [hv]; rfl, hr⟩
    · cases hc
  case h_12 x i =>
    obtain ⟨p, hp, rfl⟩ := Option.map_eq_some_iff.1 hc
    obtain ⟨s, hK, hs⟩ := stepExt_sound (c := c) (C := C) h
    refine ⟨s, hK, fun a w hw ho => ?_⟩
    obtain ⟨v, hv, hr⟩ := hs w _ _ (orel ho (x := x) (by simp [Op.operands]) hp)
    exact ⟨v, by simp only [execOp, Sem.run_bind]; rw [hv]; rfl, hr⟩
  case h_13 src dst' x =>
    unfold compConv at hc
    split at hc
    · rename_i e p h1 h2 hp
      split at hc
      · rename_i he
        injection hc with hc
        subst hc
        obtain ⟨s, hK, hs⟩ := stepB2s_sound (c := c) (C := C) h1 he h2 h
        refine ⟨s, hK, fun a w hw ho => ?_⟩
        obtain ⟨v, hv, hr⟩ := hs w _ hw (orel ho (x := x) (by simp [Op.operands]) hp)
        exact ⟨v, by simp only [execOp, Sem.run_bind]; rw [hv]; rfl, hr⟩
      · cases hc
    · rename_i j k p h1 h2 hp
      injection hc with hc
      subst hc
      obtain ⟨s, hK, hs⟩ := stepConv_sound (c := c) (C := C) h1 h2 h
      refine ⟨s, hK, fun a w hw ho => ?_⟩
      obtain ⟨v, hv, hr⟩ := hs w _ _ (orel ho (x := x) (by simp [Op.operands]) hp)
      exact ⟨v, by simp only [execOp, Sem.run_bind]; rw [hv]; rfl, hr⟩
    · cases hc
  case h_14 t x lo hi =>
    unfold compSl at hc
    split at hc
    · rename_i p l r hu hp hl hr
      injection hc with hc
      subst hc
      obtain ⟨s, hK, hs⟩ := stepSls_sound (c := c) (C := C) hu h
      refine ⟨s, hK, fun a w hw ho => ?_⟩
      have side : ∀ (y : Option Operand) (q : Option Opd), opdO y = some q → (∀ z, y = some z → z ∈ (Op.slice t x lo hi none).operands) →
          (∀ z, evOO E q = some z → ∃ v, y.map a.eval = some v ∧ RelV w (Ms c C) C z v) ∧ (evOO E q = none → y.map a.eval = none) := by
        intro y q hq hm
        cases y with
        | none => injection hq with hq; subst hq; exact ⟨fun z hz => (by cases hz), fun _ => rfl⟩
        | some y =>
          obtain ⟨q', hq', rfl⟩ := Option.map_eq_some_iff.1 hq
          refine ⟨fun z hz => ?_, fun hz => (by cases hz)⟩
          injection hz with hz
          subst hz
          exact ⟨_, rfl, orel ho (hm y rfl) hq'⟩
      obtain ⟨l1, l2⟩ := side lo l hl (by rintro z rfl; simp [Op.operands])
      obtain ⟨r1, r2⟩ := side hi r hr (by rintro z rfl; simp [Op.operands])
      obtain ⟨v, hv, hr⟩ := hs w _ _ (lo.map a.eval) (hi.map a.eval) (orel ho (x := x) (by simp [Op.operands]) hp) l1 l2 r1 r2
      exact ⟨v, by simp only [execOp, Sem.run_bind, Option.map_none]; rw [hv]; rfl, hr⟩
    · rename_i e p l r hu hp hl hr
      obtain ⟨n, hn, hc⟩ := Option.map_eq_some_iff.1 hc
      subst hc
      obtain ⟨inf, hinf, rfl⟩ := Option.map_eq_some_iff.1 hn
      obtain ⟨s, hK, hs⟩ := stepSlx_sound (c := c) (C := C) hu hinf h
      refine ⟨s, hK, fun a w hw ho => ?_⟩
      have side : ∀ (y : Option Operand) (q : Option Opd), opdO y = some q → (∀ z, y = some z → z ∈ (Op.slice t x lo hi none).operands) →
          (∀ z, evOO E q = some z → ∃ v, y.map a.eval = some v ∧ RelV w (Ms c C) C z v) ∧ (evOO E q = none → y.map a.eval = none) := by
        intro y q hq hm
        cases y with
        | none => injection hq with hq; subst hq; exact ⟨fun z hz => (by cases hz), fun _ => rfl⟩
        | some y =>
          obtain ⟨q', hq', rfl⟩ := Option.map_eq_some_iff.1 hq
          refine ⟨fun z hz => ?_, fun hz => (by cases hz)⟩
          injection hz with hz
          subst hz
          exact ⟨_, rfl, orel ho (hm y rfl) hq'⟩
      obtain ⟨l1, l2⟩ := side lo l hl (by rintro z rfl; simp [Op.operands])
      obtain ⟨r1, r2⟩ := side hi r hr (by rintro z rfl; simp [Op.operands])
      obtain ⟨v, hv, hr⟩ := hs w _ (lo.map a.eval) (hi.map a.eval) hw (orel ho (x := x) (by simp [Op.operands]) hp) l1 l2 r1 r2
      exact ⟨v, by simp only [execOp, Sem.run_bind, Option.map_none]; rw [hv]; rfl, hr⟩
    · cases hc
  case h_15 t x lo hi m =>
    unfold compSl0 at hc
    split at hc
    · rename_i e p hu hp
      split at hc
      · rename_i k1 k2 hm
        split at hc
        · rename_i hz
          obtain ⟨n, hn, hc⟩ := Option.map_eq_some_iff.1 hc
          subst hc
          obtain ⟨inf, hinf, rfl⟩ := Option.map_eq_some_iff.1 hn
          injection hm with hm
          subst hm
          obtain ⟨s, hK, hs⟩ := stepSl0_sound (c := c) (C := C) hu hinf h
          refine ⟨s, hK, fun a w hw ho => ?_⟩
          have hl : lo.map a.eval = none ∨ ∃ k, lo.map a.eval = some (.int k 0) := by
            unfold zero? at hz
            split at hz
            · exact .inl rfl
            · exact .inr ⟨_, rfl⟩
            · cases hz
          obtain ⟨v, hv, hr⟩ := hs w _ (lo.map a.eval) hw (orel ho (x := x) (by simp [Op.operands]) hp) hl k1 k2
          exact ⟨v, by simp only [execOp, Sem.run_bind, Option.map_some]; simp only [Act.eval] at hv ⊢; rw [hv]; rfl, hr⟩
        · cases hc
      · cases hc
    · cases hc
  case h_16 g caps =>
    obtain ⟨ps, hps, rfl⟩ := Option.map_eq_some_iff.1 hc
    simp only [stepP] at h
    split at h
    · rename_i xs hx
      refine ⟨_, h, fun a w hw ho => ?_⟩
      obtain ⟨hl, hv⟩ := opdL_rel (C := C) (E := E) (a := a) (w := w) caps.toList ps hps (fun t ht => ho t (by simpa [Op.operands] using ht))
      have hcap := capsD_rep (w := w) (M := Ms c C) (C := C) (ps.map (evF E)) (caps.toList.map a.eval) xs hx hl hv
      refine ⟨.func (.func g) #[] (caps.map a.eval), by simp [execOp, Instr.makeFunc], [.func (.func g) #[] (caps.map a.eval)], ⟨rfl, caps.toList.map a.eval, ?_, hcap⟩, rfl⟩
      have : Array.map a.eval caps = (caps.toList.map a.eval).toArray := by apply Array.ext'; simp
      rw [this]
    · exact h.elim
  case h_17 t xs ts =>
    obtain ⟨ps, hps, rfl⟩ := Option.map_eq_some_iff.1 hc
    simp [quietMO] at hq
  case h_18 xs ts =>
    unfold compLen at hc
    split at hc
    · rename_i t x
      have fin : ∀ p str, opd x = some p → stepLen ob str (evF E p) K → (if str then c.P.underlying t = some .string else ∃ e, c.P.underlying t = some (.slice e)) →
          ∃ s, K s ∧ YRun c ob C { dst := dst, op := .call { callee := .builtin .len, args := #[x], argTypes := #[t] }, type := ty, pos := pos, after := after, guard := guard } E s := by
        intro p str hp h hu
        obtain ⟨s, hK, hs⟩ := stepLen_sound (C := C) (ty := ty) hu h
        refine ⟨s, hK, fun a w hw ho => ?_⟩
        obtain ⟨v, hv, hr⟩ := hs w _ hw (orel ho (x := x) (by simp [Op.operands, Call.operands]) hp)
        refine ⟨v, ?_, hr⟩
        simp only [execOp, resolve, Sem.run_bind, Sem.run_pure, Result.andThen_ok, invoke, builtin, List.map_toArray, List.map_cons, List.map_nil]
        rw [hv]; rfl
      split at hc
      · rename_i p hu hp
        injection hc with hc
        subst hc
        exact fin _ _ hp h (by simpa using hu)
      · rename_i e p hu hp
        injection hc with hc
        subst hc
        exact fin _ _ hp h (by simpa using ⟨e, hu⟩)
      · cases hc
    · cases hc
  case h_19 xs ts =>
    unfold compMx at hc
    split at hc
    · rename_i x y
      split at hc
      · rename_i p q h1 h2
        injection hc with hc
        subst hc
        obtain ⟨s, hK, hs⟩ := stepMx_sound (c := c) (C := C) (ts := ts) (ty := ty) h
        refine ⟨s, hK, fun a w hw ho => ?_⟩
        obtain ⟨v, hv, hr⟩ := hs w _ _ _ (orel ho (x := x) (by simp [Op.operands, Call.operands]) h1) (orel ho (x := y) (by simp [Op.operands, Call.operands]) h2)
        refine ⟨v, ?_, hr⟩
        simp only [if_true] at hv
        simp only [execOp, resolve, Sem.run_bind, Sem.run_pure, Result.andThen_ok, invoke, builtin, List.map_toArray, List.map_cons, List.map_nil]
        rw [hv]; rfl
      · cases hc
    · cases hc
  case h_20 xs ts =>
    unfold compMx at hc
    split at hc
    · rename_i x y
      split at hc
      · rename_i p q h1 h2
        injection hc with hc
        subst hc
        obtain ⟨s, hK, hs⟩ := stepMx_sound (c := c) (C := C) (ts := ts) (ty := ty) h
        refine ⟨s, hK, fun a w hw ho => ?_⟩
        obtain ⟨v, hv, hr⟩ := hs w _ _ _ (orel ho (x := x) (by simp [Op.operands, Call.operands]) h1) (orel ho (x := y) (by simp [Op.operands, Call.operands]) h2)
        refine ⟨v, ?_, hr⟩
        simp only [Bool.false_eq_true, if_false] at hv
        simp only [execOp, resolve, Sem.run_bind, Sem.run_pure, Result.andThen_ok, invoke, builtin, List.map_toArray, List.map_cons, List.map_nil]
        rw [hv]; rfl
      · cases hc
    · cases hc
  case h_21 f xs ts =>
    unfold compCall at hc
    split at hc
    · split at hc
      · injection hc with hc
        simp only [if_true] at hc
        subst hc
        simp [quietMO] at hq
      · cases hc
    · cases hc
  case h_22 => cases hc
end
end Go.Pe

/- What a reading operation yields, it yields in every world that keeps what it looks at. -/
set_option linter.all false
namespace Go.Pe
open Go Go.RowKit
/-- does it look at memory? -/
def memMO : MO → Bool
  | .ld _ _ => true
  | _ => false
/-- the objects that an operation looks into. -/
def moRefs (E : Nat → SV) : MO → List Nat
  | .ld _ x => refsOf (evF E x)
  | _ => []
theorem free_eqg {p : Program} (op : BinOp) (t : TypeId) (x y : Operand) (a b : Value) (h : (∃ k n k' m, a = .int k n ∧ b = .int k' m) ∨ ∃ s s', a = .string s ∧ b = .string s') : Free p (eqGuard op t x y a b) := by
  unfold eqGuard
  rcases h with ⟨k, n, k', m, rfl, rfl⟩ | ⟨s, s', rfl, rfl⟩ <;> split <;> exact free_pure _
theorem free_bini {p : Program} (op : BinOp) (t : TypeId) (k k' : IntKind) (a b : Int) : Free p (binOp op t (.int k a) (.int k' b)) := by
  unfold binOp
  split
  all_goals first
    | contradiction
    | (rename_i e1 e2; injection e1; done)
    | skip
  all_goals first
    | (rename_i e1 e2
       injection e1 with e3 e4
       injection e2 with e5 e6
       subst e3 e4 e5 e6
       exact free_shift _ _ _ _ _)
    | skip
  all_goals first
    | (split
       · exact free_stuck _
       · split <;> first | exact free_arith _ _ _ _ | exact free_div _ _ _ _ | exact free_bits _ _ _ _ | exact free_cmp _ _ _)
    | exact free_stuck _
theorem free_bins {p : Program} (op : BinOp) (t : TypeId) (a b : ByteArray) : Free p (binOp op t (.string a) (.string b)) := by
  have : binOp op t (.string a) (.string b) = Op.stringOp op a b := by cases op <;> rfl
  rw [this]; exact free_str _ _ _
section
variable {c : Ctx} {ob : List Ob} {C : List OC} {o : Oper} {E : Nat → SV} {K : SV → Prop} {mo : MO}
theorem stepQ (hq : quietMO mo = true) (hc : compP c.P true o.op = some mo) (h : stepP c.G ob E mo K) : ∃ s, K s ∧ ∀ a w, RelW c ob C w → OpRel c C o E a w →
    ∃ v, (execOp a.eval o).run c.P w = .ok (.value v) w ∧ RelV w (Ms c C) C s v ∧ ∃ B : Nat → Prop, (∀ b, B b → okB w c C (moRefs E mo) b) ∧ (memMO mo = false → ∀ b, ¬ B b) ∧ ∀ w' : World, (∀ b, B b → w'.heap[b]? = w.heap[b]?) → (execOp a.eval o).run c.P w' = .ok (.value v) w' := by
  have hrun := stepP_run (C := C) hq hc h
  have fin : (∀ a w, RelW c ob C w → OpRel c C o E a w → Free c.P (execOp a.eval o)) → ∃ s, K s ∧ ∀ a w, RelW c ob C w → OpRel c C o E a w →
      ∃ v, (execOp a.eval o).run c.P w = .ok (.value v) w ∧ RelV w (Ms c C) C s v ∧ ∃ B : Nat → Prop, (∀ b, B b → okB w c C (moRefs E mo) b) ∧ (memMO mo = false → ∀ b, ¬ B b) ∧ ∀ w' : World, (∀ b, B b → w'.heap[b]? = w.heap[b]?) → (execOp a.eval o).run c.P w' = .ok (.value v) w' := by
    intro hf
    obtain ⟨s, hK, hs⟩ := hrun
    refine ⟨s, hK, fun a w hw ho => ?_⟩
    obtain ⟨v, h1, h2⟩ := hs a w hw ho
    exact ⟨v, h1, h2, fun _ => False, fun b hb => hb.elim, fun _ _ h => h, fun w' _ => (hf a w hw ho w _ _ h1).2 w'⟩
  obtain ⟨dst, op, ty, pos, after, guard⟩ := o
  simp only at hc
  unfold compP at hc
  split at hc
  case h_1 x | h_2 x => exact fin fun a w hw ho => free_pure _
  case h_3 cc x y => exact fin fun a w hw ho => free_bind (free_asBool _) fun b => free_pure _
  case h_4 t x y yt =>
    unfold compShr at hc
    split at hc
    · injection hc with hc; subst hc; cases hq
    · cases hc
  case h_5 bop t x y yt hne =>
    unfold compBin at hc
    have fb : ∀ p q, opd x = some p → opd y = some q → stepBin bop (evF E p) (evF E q) K → ∀ a w, RelW c ob C w → OpRel c C { dst := dst, op := .binOp bop t x y yt, type := ty, pos := pos, after := after, guard := guard } E a w → Free c.P (execOp a.eval { dst := dst, op := .binOp bop t x y yt, type := ty, pos := pos, after := after, guard := guard }) := by
      intro p q h1 h2 h a w hw ho
      have r1 := orel ho (x := x) (by simp [Op.operands]) h1
      have r2 := orel ho (x := y) (by simp [Op.operands]) h2
      simp only [stepBin] at h
      split at h
      · rename_i k1 a1 k2 a2 e1 e2
        rw [e1] at r1
        rw [e2] at r2
        have v1 := relV_int.1 r1
        have v2 := relV_int.1 r2
        simp only [execOp, v1, v2]
        exact free_bind (free_bind (free_eqg _ _ _ _ _ _ (.inl ⟨_, _, _, _, rfl, rfl⟩)) fun _ => free_bini _ _ _ _ _ _) fun _ => free_pure _
      · rename_i a1 a2 e1 e2
        rw [e1] at r1
        rw [e2] at r2
        have v1 := relV_str.1 r1
        have v2 := relV_str.1 r2
        simp only [execOp, v1, v2]
        exact free_bind (free_bind (free_eqg _ _ _ _ _ _ (.inr ⟨_, _, rfl, rfl⟩)) fun _ => free_bins _ _ _ _) fun _ => free_pure _
      · exact h.elim
    split at hc
    · rename_i k p q hu h1 h2
      injection hc with hc
      subst hc
      exact fin (fb p q h1 h2 h)
    · rename_i p q hu h1 h2
      injection hc with hc
      subst hc
      exact fin (fb p q h1 h2 h)
    · injection hc with hc; subst hc; cases hq
    · split at hc
      · split at hc
        · injection hc with hc; subst hc; cases hq
        · cases hc
      · cases hc
    · obtain ⟨neg, ks, rfl⟩ := compSq_ok hc
      cases hq
    · cases hc
  case h_6 uop t x => exact fin fun a w hw ho => free_bind (free_unary _ _) fun b => free_pure _
  case h_7 x =>
    obtain ⟨p, hp, rfl⟩ := Option.map_eq_some_iff.1 hc
    cases hq
  case h_8 t x =>
    obtain ⟨agg, p, rfl, hp, hl⟩ := (compLd_ok hc).resolve_right (by rintro ⟨n, p, rfl, _⟩; cases hq)
    obtain ⟨s, hK, hs⟩ := stepLd_soundB (C := C) hl h
    refine ⟨s, hK, fun a w hw ho => ?_⟩
    obtain ⟨v, hv, hr, B, hB, hw'⟩ := hs w _ hw (orel ho (x := x) (by simp [Op.operands]) hp)
    refine ⟨v, by simp only [execOp, Sem.run_bind]; rw [hv]; rfl, hr, B, hB, (fun h => by cases h), fun w' hk => ?_⟩
    simp only [execOp, Sem.run_bind]; rw [hw' w' hk]; rfl
  case h_9 st x f =>
    unfold compFa at hc
    split at hc
    · rename_i fs p hu hp
      split at hc
      · rename_i fd hf
        split at hc
        · rename_i n hn
          injection hc with hc
          subst hc
          simp only [sizeOfT, Option.map_eq_some_iff] at hn
          obtain ⟨inf, hi, hsz⟩ := hn
          exact fin fun a w hw ho => free_bind (free_field hu hf hi (by omega) _) fun _ => free_pure _
        · cases hc
      · cases hc
    · cases hc
  case h_10 t x i => exact fin fun a w hw ho => free_bind (free_index _ _ _) fun _ => free_pure _
  case h_11 t x i =>
    unfold compIx at hc
    split at hc
    · injection hc with hc; subst hc; cases hq
    · cases hc
  case h_12 x i => exact fin fun a w hw ho => free_bind (free_extract _ _) fun _ => free_pure _
  case h_13 src dst' x =>
    unfold compConv at hc
    split at hc
    · split at hc
      · injection hc with hc; subst hc; cases hq
      · cases hc
    · injection hc with hc; subst hc; cases hq
    · cases hc
  case h_14 t x lo hi =>
    unfold compSl at hc
    split at hc
    · rename_i p l r hu hp hl hr
      exact fin fun a w hw ho => free_bind (free_slice hu (.inl rfl) _ _ _) fun _ => free_pure _
    · rename_i e p l r hu hp hl hr
      exact fin fun a w hw ho => free_bind (free_slice hu (.inr ⟨e, rfl⟩) _ _ _) fun _ => free_pure _
    · cases hc
  case h_15 t x lo hi m =>
    unfold compSl0 at hc
    split at hc
    · split at hc
      · split at hc
        · obtain ⟨n, hn, hc⟩ := Option.map_eq_some_iff.1 hc
          subst hc; cases hq
        · cases hc
      · cases hc
    · cases hc
  case h_16 g caps =>
    obtain ⟨ps, hps, rfl⟩ := Option.map_eq_some_iff.1 hc
    cases hq
  case h_17 t xs ts =>
    obtain ⟨ps, hps, rfl⟩ := Option.map_eq_some_iff.1 hc
    simp [quietMO] at hq
  case h_18 xs ts =>
    unfold compLen at hc
    split at hc
    · rename_i t x
      have fl : ∀ d, c.P.underlying t = some d → (d = .string ∨ ∃ e, d = .slice e) → ∀ a : Act, Free c.P (execOp a.eval { dst := dst, op := .call { callee := .builtin .len, args := #[x], argTypes := #[t] }, type := ty, pos := pos, after := after, guard := guard }) := by
        intro d hu hd a w r w1 hr
        simp only [execOp, resolve, Sem.run_bind, Sem.run_pure, Result.andThen_ok, invoke, builtin, List.map_toArray, List.map_cons, List.map_nil] at hr ⊢
        exact (free_bind (free_len hu hd _) fun _ => free_pure _ : Free c.P _) w r w1 (by simpa [Sem.run_bind] using hr) |>.imp id fun h w' => by simpa [Sem.run_bind] using h w'
      split at hc
      · rename_i p hu hp
        exact fin fun a w hw ho => fl _ hu (.inl rfl) a
      · rename_i e p hu hp
        exact fin fun a w hw ho => fl _ hu (.inr ⟨e, rfl⟩) a
      · cases hc
    · cases hc
  case h_19 xs ts | h_20 xs ts =>
    unfold compMx at hc
    split at hc
    · split at hc
      · injection hc with hc; subst hc; cases hq
      · cases hc
    · cases hc
  case h_21 f xs ts =>
    unfold compCall at hc
    split at hc
    · split at hc
      · injection hc with hc
        simp only [if_true] at hc
        subst hc; cases hq
      · cases hc
    · cases hc
  case h_22 => cases hc
end
end Go.Pe

/- Some objects are hidden from an operation: it leaves them as they are. -/
set_option linter.all false
namespace Go.Pe
open Go Go.RowKit

def hideO : List Nat → List Ob → List Ob
  | [], o => o
  | r :: rs, o => hideO rs (o.set r .dead)
def showO (o0 : List Ob) : List Nat → List Ob → List Ob
  | [], o => o
  | r :: rs, o => showO o0 rs (match o0[r]? with
    | some ob => o.set r ob
    | none => o)
def hideC (R : List Nat) (C : List OC) : List OC := C.mapIdx fun j oc => if j ∈ R then { oc with fp := [] } else oc
def showC (C : List OC) (R : List Nat) (C' : List OC) : List OC := C'.mapIdx fun j oc => if j ∈ R then (C[j]?).getD oc else oc
def backS (R : List Nat) : SV → Bool
  | .own r => R.contains r
  | .ptr r _ _ => R.contains r
  | .el r _ _ _ _ => R.contains r
  | _ => false
def eqO : Option Nat → Nat → Bool
  | none, _ => false
  | some d, t => d == t
theorem eqO_spec (dst : Option Nat) (t : Nat) : eqO dst t = false ↔ dst ≠ some t := by
  cases dst with
  | none => simp [eqO]
  | some d => simp [eqO]
def showE (R : List Nat) (dst : Option Nat) (e0 : Env) : Env → Env
  | [] => []
  | (t, _) :: r => if backS R (look e0 t) && !eqO dst t then (t, look e0 t) :: showE R dst e0 r else showE R dst e0 r

theorem hideO_get : ∀ (R : List Nat) (o : List Ob) (j : Nat), (hideO R o)[j]? = if j ∈ R then (o[j]?).map (fun _ => Ob.dead) else o[j]?
  | [], o, j => by simp [hideO]
  | r :: rs, o, j => by
    rw [hideO, hideO_get rs]
    by_cases e : r = j
    · subst e
      have hs : (o.set r Ob.dead)[r]? = (o[r]?).map fun _ => Ob.dead := by
        rw [List.getElem?_set]
        by_cases h : r < o.length
        · simp [h]
        · simp [h]
      by_cases h : r ∈ rs
      · simp only [h, if_true, hs, List.mem_cons, true_or, Option.map_map]; rfl
      · simp only [h, if_false, hs, List.mem_cons, true_or, if_true]
    · have hs : (o.set r Ob.dead)[j]? = o[j]? := by rw [List.getElem?_set, if_neg e]
      have : (j ∈ r :: rs) ↔ j ∈ rs := ⟨fun h => (List.mem_cons.1 h).resolve_left fun h => e h.symm, fun h => List.mem_cons_of_mem _ h⟩
      simp only [hs, this]
theorem showO_get (o0 : List Ob) : ∀ (R : List Nat) (o : List Ob) (j : Nat), (∀ r ∈ R, r < o.length ∧ r < o0.length) → (showO o0 R o)[j]? = if j ∈ R then o0[j]? else o[j]?
  | [], o, j, _ => by simp [showO]
  | r :: rs, o, j, hR => by
    obtain ⟨h1, h2⟩ := hR r (by simp)
    obtain ⟨ob, hob⟩ : ∃ ob, o0[r]? = some ob := ⟨o0[r], List.getElem?_eq_getElem h2⟩
    rw [showO]
    simp only [hob]
    rw [showO_get o0 rs _ j (fun q hq => by have := hR q (by simp [hq]); simpa using this)]
    by_cases e : r = j
    · subst e
      by_cases h : r ∈ rs
      · simp only [h, if_true, List.mem_cons, true_or]
      · simp only [h, if_false, List.mem_cons, true_or, if_true, List.getElem?_set, h1, hob]
    · have hs : (o.set r ob)[j]? = o[j]? := by rw [List.getElem?_set, if_neg e]
      have : (j ∈ r :: rs) ↔ j ∈ rs := ⟨fun h => (List.mem_cons.1 h).resolve_left fun h => e h.symm, fun h => List.mem_cons_of_mem _ h⟩
      simp only [hs, this]
theorem showO_len (o0 : List Ob) : ∀ (R : List Nat) (o : List Ob), (showO o0 R o).length = o.length
  | [], o => rfl
  | r :: rs, o => by
    rw [showO, showO_len o0 rs]
    split <;> simp
theorem hideO_len : ∀ (R : List Nat) (o : List Ob), (hideO R o).length = o.length
  | [], o => rfl
  | r :: rs, o => by rw [hideO, hideO_len rs]; simp
theorem hideC_get (R : List Nat) (C : List OC) (j : Nat) : (hideC R C)[j]? = (C[j]?).map fun oc => if j ∈ R then { oc with fp := [] } else oc := by
  rw [hideC, List.getElem?_mapIdx]
theorem showC_get (C : List OC) (R : List Nat) (C' : List OC) (j : Nat) : (showC C R C')[j]? = (C'[j]?).map fun oc => if j ∈ R then (C[j]?).getD oc else oc := by
  rw [showC, List.getElem?_mapIdx]
theorem fps_hide {R : List Nat} {C : List OC} {b : Nat} : b ∈ Fps (hideC R C) ↔ ∃ r oc, r ∉ R ∧ C[r]? = some oc ∧ b ∈ oc.fp := by
  rw [mem_Fps]
  constructor
  · rintro ⟨r, oc, h1, h2⟩
    rw [hideC_get, Option.map_eq_some_iff] at h1
    obtain ⟨od, h3, rfl⟩ := h1
    by_cases h : r ∈ R
    · rw [if_pos h] at h2; cases h2
    · rw [if_neg h] at h2; exact ⟨r, od, h, h3, h2⟩
  · rintro ⟨r, oc, h, h1, h2⟩
    exact ⟨r, oc, by rw [hideC_get, h1, Option.map_some, if_neg h], h2⟩
theorem look_showE (R : List Nat) (dst : Option Nat) (e0 e1 : Env) (t : Nat) : ∀ e : Env, look (showE R dst e0 e ++ e1) t = look e1 t ∨ (look (showE R dst e0 e ++ e1) t = look e0 t ∧ backS R (look e0 t) = true ∧ dst ≠ some t)
  | [] => .inl rfl
  | (k, s) :: e => by
    simp only [showE]
    split
    · rename_i h
      rw [Bool.and_eq_true, Bool.not_eq_true', eqO_spec] at h
      simp only [List.cons_append, look]
      by_cases hk : k = t
      · subst hk; simp only [if_true]; exact .inr ⟨trivial, h.1, h.2⟩
      · simp only [hk, if_false]; exact look_showE R dst e0 e1 t e
    · exact look_showE R dst e0 e1 t e

/-- the context in which the hidden objects are others'. -/
def hideX (c : Ctx) (C : List OC) (R : List Nat) (w : World) : Ctx :=
  { c with w0 := w, M0 := fun b => c.M0 b ∨ ∃ r ∈ R, ∃ oc, C[r]? = some oc ∧ b ∈ oc.fp, g0 := Fps (hideC R C) }

section
variable {c : Ctx} {s s' : St} {C C' : List OC} {a a' : Act} {w w' : World} {R : List Nat}

theorem hide_Ms : Ms (hideX c C R w) (hideC R C) = Ms c C := by
  funext b
  refine propext ⟨?_, ?_⟩
  · rintro ((h | ⟨r, _, oc, h1, h2⟩) | h)
    · exact .inl h
    · exact .inr (mem_Fps.2 ⟨r, oc, h1, h2⟩)
    · obtain ⟨r, oc, _, h1, h2⟩ := fps_hide.1 h
      exact .inr (mem_Fps.2 ⟨r, oc, h1, h2⟩)
  · rintro (h | h)
    · exact .inl (.inl h)
    · obtain ⟨r, oc, h1, h2⟩ := mem_Fps.1 h
      by_cases hr : r ∈ R
      · exact .inl (.inr ⟨r, hr, oc, h1, h2⟩)
      · exact .inr (fps_hide.2 ⟨r, oc, hr, h1, h2⟩)

theorem RelV0.move {M : Nat → Prop} {sv : SV} {v : Value} (h : ∀ r oc, ref0 r sv = true → C[r]? = some oc → C'[r]? = some oc) (hv : RelV0 w M C sv v) : RelV0 w M C' sv v := by
  cases sv with
  | own r => obtain ⟨oc, h1, h2⟩ := hv; exact ⟨oc, h r oc (by simp [ref0]) h1, h2⟩
  | ptr r off p => obtain ⟨oc, h1, h2⟩ := hv; exact ⟨oc, h r oc (by simp [ref0]) h1, h2⟩
  | el r es i off p => obtain ⟨oc, g, n, cp, h1, h2⟩ := hv; exact ⟨oc, g, n, cp, h r oc (by simp [ref0]) h1, h2⟩
  | vw r => obtain ⟨oc, cs, h1, h2⟩ := hv; exact ⟨oc, cs, h r oc (by simp [ref0]) h1, h2⟩
  | win r es lo => obtain ⟨oc, g, n, cp, h1, h2⟩ := hv; exact ⟨oc, g, n, cp, h r oc (by simp [ref0]) h1, h2⟩
  | _ => exact hv
theorem RelV.move {M : Nat → Prop} {sv : SV} {v : Value} (h : ∀ r oc, refA r sv = true → C[r]? = some oc → C'[r]? = some oc) (hv : RelV w M C sv v) : RelV w M C' sv v := by
  cases sv with
  | tup xs =>
    obtain ⟨vs, k1, k2, k3⟩ := hv
    refine ⟨vs, k1, k2, fun i sx u hi hu => RelV0.move (fun r oc hr hc => h r oc ?_ hc) (k3 i sx u hi hu)⟩
    simp only [refA, List.any_eq_true]
    exact ⟨sx, List.mem_of_getElem? hi, hr⟩
  | own r => exact RelV0.move (w := w) (M := M) (sv := .own r) (v := v) (fun r' oc hr hc => h r' oc (by simpa [refA] using hr) hc) hv
  | ptr r off p => exact RelV0.move (w := w) (M := M) (sv := .ptr r off p) (v := v) (fun r' oc hr hc => h r' oc (by simpa [refA] using hr) hc) hv
  | el r es i off p => exact RelV0.move (w := w) (M := M) (sv := .el r es i off p) (v := v) (fun r' oc hr hc => h r' oc (by simpa [refA] using hr) hc) hv
  | win r es lo => exact RelV0.move (w := w) (M := M) (sv := .win r es lo) (v := v) (fun r' oc hr hc => h r' oc (by simpa [refA] using hr) hc) hv
  | vw r => exact RelV0.move (w := w) (M := M) (sv := .vw r) (v := v) (fun r' oc hr hc => h r' oc (by simpa [refA] using hr) hc) hv
  | _ => exact hv

theorem hide_rel (hr : Rel c s C a w) (R : List Nat) : Rel (hideX c C R w) ⟨killL R s.e, hideO R s.o⟩ (hideC R C) a w := by
  have hn := nodup_Fps.1 hr.wd.nodup
  refine ⟨hr.tmps, hr.defers, fun t => ?_, ?_, hr.fix⟩
  · rw [hide_Ms, look_killL]
    split
    · trivial
    · rename_i h
      refine RelV.move (fun r oc hra hc => ?_) (hr.env t)
      rw [hideC_get, hc, Option.map_some]
      have : r ∉ R := fun hm => h (List.any_eq_true.2 ⟨r, hm, hra⟩)
      rw [if_neg this]
  · refine { len := by rw [hideO_len, hideC, List.length_mapIdx]; exact hr.wd.len, obs := ?_, tags := ?_, nodup := ?_, lt := ?_, apart := ?_, mine := fun b hb => .inr hb, os := rfl, tape := rfl, output := rfl, size := Nat.le_refl _, kept := fun b _ _ => rfl, m0 := ?_, glob := by rw [hide_Ms]; exact hr.wd.glob }
    · intro r ob oc h1 h2
      rw [hide_Ms]
      rw [hideO_get] at h1
      rw [hideC_get, Option.map_eq_some_iff] at h2
      obtain ⟨od, h3, rfl⟩ := h2
      by_cases h : r ∈ R
      · rw [if_pos h, Option.map_eq_some_iff] at h1
        obtain ⟨_, _, rfl⟩ := h1
        rw [if_pos h]
        rfl
      · rw [if_neg h] at h1 ⊢
        exact hr.wd.obs r ob od h1 h3
    · intro q r v h1
      rw [hideO_get] at h1
      have h1' : s.o[q]? = some (.tag r v) := by
        split at h1
        · rw [Option.map_eq_some_iff] at h1; obtain ⟨_, _, h⟩ := h1; cases h
        · exact h1
      obtain ⟨oc, h2, h3⟩ := hr.wd.tags q r v h1'
      refine ⟨_, by rw [hideC_get, h2, Option.map_some], ?_⟩
      split <;> exact h3
    · refine nodup_Fps.2 ⟨fun j od hj => ?_, fun j i od oe hne hj hi b hb hb' => ?_⟩
      · rw [hideC_get, Option.map_eq_some_iff] at hj
        obtain ⟨oc, h1, rfl⟩ := hj
        split
        · exact List.nodup_nil
        · exact hn.1 j oc h1
      · rw [hideC_get, Option.map_eq_some_iff] at hj hi
        obtain ⟨o1, h1, rfl⟩ := hj
        obtain ⟨o2, h2, rfl⟩ := hi
        split at hb
        · cases hb
        · split at hb'
          · cases hb'
          · exact hn.2 j i o1 o2 hne h1 h2 b hb hb'
    · intro b hb
      obtain ⟨r, oc, _, h1, h2⟩ := fps_hide.1 hb
      exact hr.wd.lt b (mem_Fps.2 ⟨r, oc, h1, h2⟩)
    · intro b hb
      obtain ⟨r, oc, hm, h1, h2⟩ := fps_hide.1 hb
      rintro (h | ⟨q, hq, od, h3, h4⟩)
      · exact hr.wd.apart b (mem_Fps.2 ⟨r, oc, h1, h2⟩) h
      · exact hn.2 r q oc od (fun e => hm (by rw [e]; exact hq)) h1 h3 b h2 h4
    · rintro b (h | ⟨q, hq, od, h3, h4⟩)
      · have := hr.wd.m0 b h
        have := hr.wd.size
        show b < w.heap.size
        omega
      · exact hr.wd.lt b (mem_Fps.2 ⟨q, od, h3, h4⟩)

theorem ObRel.frame {M M' : Nat → Prop} {ob : Ob} {oc : OC} (hs : w.heap.size ≤ w'.heap.size) (hM : ∀ b, b < w.heap.size → M' b → M b) (hk : ∀ b, b < w.heap.size → (b ∈ oc.fp ∨ ¬ M b) → w'.heap[b]? = w.heap[b]?) (h : ObRel w M ob oc) : ObRel w' M' ob oc := by
  cases ob with
  | dead => exact h
  | tag r v => exact h
  | val x =>
    obtain ⟨cs, h1, h2⟩ := h
    exact ⟨cs, rep_frame hs hM x cs oc.fp hk h1, h2⟩
  | box x =>
    obtain ⟨cs, fps, h1, h2, h3⟩ := h
    exact ⟨cs, fps, h1.frame (hk _ h1.lt (.inl (by rw [h3]; simp))), rep_frame hs hM x cs fps (fun b hb hx => hk b hb (hx.imp (fun hx => by rw [h3]; simp [hx]) id)) h2, h3⟩

theorem show_rel (hr : Rel c s C a w) (hR : ∀ r ∈ R, r < s.o.length) (hT : ∀ q ∈ R, ∀ r v, s.o[q]? ≠ some (.tag r v)) {dst : Option Nat} (h : Rel (hideX c C R w) s' C' a' w') (hd : ∀ r ∈ R, s'.o[r]? = some .dead) (hn : ∀ r ∈ R, noTag r s'.o = true) (ht : ∀ t, dst ≠ some t → a'.tmps.getD t Go.undef = a.tmps.getD t Go.undef) :
    Rel c ⟨showE R dst s.e s.e ++ killL R s'.e, showO s.o R s'.o⟩ (showC C R C') a' w' ∧ ∀ b, okB w c C R b → w'.heap[b]? = w.heap[b]? ∧ okB w' c (showC C R C') R b := by
  have hnC := nodup_Fps.1 hr.wd.nodup
  have hnC' := nodup_Fps.1 h.wd.nodup
  have hlen := hr.wd.len
  have hlen' := h.wd.len
  -- the hidden objects' places
  have hat : ∀ r ∈ R, ∃ oc od, C[r]? = some oc ∧ C'[r]? = some od ∧ (showC C R C')[r]? = some oc := by
    intro r hm
    have h1 := hR r hm
    have h2 := lt_of_get (hd r hm)
    obtain ⟨oc, hoc⟩ : ∃ oc, C[r]? = some oc := ⟨C[r]'(by omega), List.getElem?_eq_getElem _⟩
    obtain ⟨od, hod⟩ : ∃ od, C'[r]? = some od := ⟨C'[r]'(by omega), List.getElem?_eq_getElem _⟩
    exact ⟨oc, od, hoc, hod, by rw [showC_get, hod, Option.map_some, if_pos hm, hoc]; rfl⟩
  have hdead : ∀ r ∈ R, ∀ od, C'[r]? = some od → od.fp = [] := fun r hm od h1 => h.wd.obs r .dead od (hd r hm) h1
  have hcase : ∀ (j : Nat) (od : OC), (showC C R C')[j]? = some od → (j ∈ R ∧ C[j]? = some od) ∨ (j ∉ R ∧ C'[j]? = some od) := by
    intro j od hj
    by_cases hm : j ∈ R
    · obtain ⟨oc, _, h1, _, h3⟩ := hat j hm
      rw [h3] at hj
      injection hj with hj
      subst hj
      exact .inl ⟨hm, h1⟩
    · rw [showC_get, Option.map_eq_some_iff] at hj
      obtain ⟨o1, h1, h2⟩ := hj
      rw [if_neg hm] at h2
      subst h2
      exact .inr ⟨hm, h1⟩
  have hmem : ∀ b, b ∈ Fps (showC C R C') ↔ (∃ r ∈ R, ∃ oc, C[r]? = some oc ∧ b ∈ oc.fp) ∨ b ∈ Fps C' := by
    intro b
    constructor
    · intro hb
      obtain ⟨j, od, hj, hb⟩ := mem_Fps.1 hb
      rcases hcase j od hj with ⟨hm, h1⟩ | ⟨_, h1⟩
      · exact .inl ⟨j, hm, od, h1, hb⟩
      · exact .inr (mem_Fps.2 ⟨j, od, h1, hb⟩)
    · rintro (⟨r, hm, oc, h1, hb⟩ | hb)
      · obtain ⟨oc', _, h2, _, h3⟩ := hat r hm
        rw [h1] at h2
        injection h2 with h2
        subst h2
        exact mem_Fps.2 ⟨r, oc, h3, hb⟩
      · obtain ⟨j, od, hj, hb⟩ := mem_Fps.1 hb
        by_cases hm : j ∈ R
        · rw [hdead j hm od hj] at hb; cases hb
        · exact mem_Fps.2 ⟨j, od, by rw [showC_get, hj, Option.map_some, if_neg hm], hb⟩
  have hMs : Ms c (showC C R C') = Ms (hideX c C R w) C' := by
    funext b
    refine propext ⟨?_, ?_⟩
    · rintro (h1 | h1)
      · exact .inl (.inl h1)
      · rcases (hmem b).1 h1 with h1 | h1
        · exact .inl (.inr h1)
        · exact .inr h1
    · rintro ((h1 | h1) | h1)
      · exact .inl h1
      · exact .inr ((hmem b).2 (.inl h1))
      · exact .inr ((hmem b).2 (.inr h1))
  have hsz : w.heap.size ≤ w'.heap.size := h.wd.size
  have hold : ∀ b, b ∈ Fps C' → w.heap.size ≤ b ∨ ∃ r oc, r ∉ R ∧ C[r]? = some oc ∧ b ∈ oc.fp := fun b hb => (h.wd.mine b hb).imp id fps_hide.1
  have hkeep : ∀ b, okB w c C R b → w'.heap[b]? = w.heap[b]? := by
    rintro b ⟨hb, hx⟩
    refine h.wd.kept b hb fun hg => ?_
    obtain ⟨q, od, hq, h1, h2⟩ := fps_hide.1 hg
    rcases hx with hx | ⟨r, hm, oc, h3, h4⟩
    · exact hx (.inr (mem_Fps.2 ⟨q, od, h1, h2⟩))
    · exact hnC.2 q r od oc (fun e => hq (by rw [e]; exact hm)) h1 h3 b h2 h4
  have hMle : ∀ b, b < w.heap.size → Ms c (showC C R C') b → Ms c C b := by
    rintro b hb (h1 | h1)
    · exact .inl h1
    · rcases (hmem b).1 h1 with ⟨r, _, oc, h2, h3⟩ | h1
      · exact .inr (mem_Fps.2 ⟨r, oc, h2, h3⟩)
      · rcases hold b h1 with h2 | ⟨r, oc, _, h2, h3⟩
        · omega
        · exact .inr (mem_Fps.2 ⟨r, oc, h2, h3⟩)
  refine ⟨⟨h.tmps, h.defers, fun t => ?_, ?_, h.fix⟩, fun b hb => ⟨hkeep b hb, by have := hb.1; omega, ?_⟩⟩
  · rcases look_showE R dst s.e (killL R s'.e) t s.e with e | ⟨e, hb, hdt⟩
    · simp only [e, look_killL]
      split
      · trivial
      · rename_i hk
        rw [hMs]
        refine RelV.move (fun r oc hra hc => ?_) (h.env t)
        have : r ∉ R := fun hm => hk (List.any_eq_true.2 ⟨r, hm, hra⟩)
        rw [showC_get, hc, Option.map_some, if_neg this]
    · simp only [e, ht t hdt]
      have hv := hr.env t
      generalize look s.e t = sv at hb hv ⊢
      have back : ∀ r oc, r ∈ R → C[r]? = some oc → (showC C R C')[r]? = some oc := fun r oc hm h1 => by
        obtain ⟨oc', _, h2, _, h3⟩ := hat r hm
        rw [h1] at h2
        injection h2 with h2
        subst h2
        exact h3
      cases sv with
      | own r =>
        simp only [backS, List.contains_iff_mem] at hb
        obtain ⟨oc, h1, h2⟩ := hv
        exact ⟨oc, back r oc hb h1, h2⟩
      | ptr r off p =>
        simp only [backS, List.contains_iff_mem] at hb
        obtain ⟨oc, h1, h2⟩ := hv
        exact ⟨oc, back r oc hb h1, h2⟩
      | el r es i off p =>
        simp only [backS, List.contains_iff_mem] at hb
        obtain ⟨oc, g, n, cp, h1, h2⟩ := hv
        exact ⟨oc, g, n, cp, back r oc hb h1, h2⟩
      | _ => cases hb
  · refine { len := by rw [showO_len, showC, List.length_mapIdx]; exact hlen', obs := ?_, tags := ?_, nodup := ?_, lt := ?_, apart := ?_, mine := ?_, os := h.wd.os.trans hr.wd.os, tape := h.wd.tape.trans hr.wd.tape, output := h.wd.output.trans hr.wd.output, size := Nat.le_trans hr.wd.size hsz, kept := ?_, m0 := hr.wd.m0, glob := by rw [hMs]; exact h.wd.glob }
    · intro r ob oc h1 h2
      rw [showO_get s.o R s'.o r (fun q hq => ⟨lt_of_get (hd q hq), hR q hq⟩)] at h1
      rcases hcase r oc h2 with ⟨hm, h3⟩ | ⟨hm, h3⟩
      · rw [if_pos hm] at h1
        refine ObRel.frame hsz hMle (fun b hb hx => hkeep b ⟨hb, ?_⟩) (hr.wd.obs r ob oc h1 h3)
        exact hx.symm.imp id fun hx => ⟨r, hm, oc, h3, hx⟩
      · rw [if_neg hm] at h1
        rw [hMs]
        exact h.wd.obs r ob oc h1 h3
    · intro q r v h1
      rw [showO_get s.o R s'.o q (fun q hq => ⟨lt_of_get (hd q hq), hR q hq⟩)] at h1
      by_cases hm : q ∈ R
      · rw [if_pos hm] at h1
        exact absurd h1 (hT q hm r v)
      · rw [if_neg hm] at h1
        obtain ⟨oc, h2, h3⟩ := h.wd.tags q r v h1
        have hrm : r ∉ R := fun hrm => noTag_get (hn r hrm) h1 rfl
        exact ⟨oc, by rw [showC_get, h2, Option.map_some, if_neg hrm], h3⟩
    · refine nodup_Fps.2 ⟨fun j od hj => ?_, fun j i od oe hne hj hi b hb hb' => ?_⟩
      · rcases hcase j od hj with ⟨_, h1⟩ | ⟨_, h1⟩
        · exact hnC.1 j od h1
        · exact hnC'.1 j od h1
      · rcases hcase j od hj with ⟨m1, h1⟩ | ⟨m1, h1⟩ <;> rcases hcase i oe hi with ⟨m2, h2⟩ | ⟨m2, h2⟩
        · exact hnC.2 j i od oe hne h1 h2 b hb hb'
        · exact h.wd.apart b (mem_Fps.2 ⟨i, oe, h2, hb'⟩) (.inr ⟨j, m1, od, h1, hb⟩)
        · exact h.wd.apart b (mem_Fps.2 ⟨j, od, h1, hb⟩) (.inr ⟨i, m2, oe, h2, hb'⟩)
        · exact hnC'.2 j i od oe hne h1 h2 b hb hb'
    · intro b hb
      rcases (hmem b).1 hb with ⟨r, _, oc, h1, h2⟩ | h1
      · have := hr.wd.lt b (mem_Fps.2 ⟨r, oc, h1, h2⟩); omega
      · exact h.wd.lt b h1
    · intro b hb
      rcases (hmem b).1 hb with ⟨r, _, oc, h1, h2⟩ | h1
      · exact hr.wd.apart b (mem_Fps.2 ⟨r, oc, h1, h2⟩)
      · exact fun hm => h.wd.apart b h1 (.inl hm)
    · intro b hb
      rcases (hmem b).1 hb with ⟨r, _, oc, h1, h2⟩ | h1
      · exact hr.wd.mine b (mem_Fps.2 ⟨r, oc, h1, h2⟩)
      · rcases hold b h1 with h2 | ⟨r, oc, _, h2, h3⟩
        · have := hr.wd.size; exact .inl (by omega)
        · exact hr.wd.mine b (mem_Fps.2 ⟨r, oc, h2, h3⟩)
    · intro b hb hg
      have hsw := hr.wd.size
      rw [h.wd.kept b (show b < w.heap.size by omega) fun hm => ?_]
      · exact hr.wd.kept b hb hg
      · obtain ⟨r, oc, _, h1, h2⟩ := fps_hide.1 hm
        rcases hr.wd.mine b (mem_Fps.2 ⟨r, oc, h1, h2⟩) with h3 | h3
        · omega
        · exact hg h3
  · rcases hb.2 with hx | ⟨r, hm, oc, h1, h2⟩
    · exact .inl fun hm => hx (hMle b hb.1 hm)
    · obtain ⟨oc', _, h3, _, h5⟩ := hat r hm
      rw [h1] at h3; injection h3 with h3; subst h3
      exact .inr ⟨r, hm, oc, h5, h2⟩
end
end Go.Pe

/- A plan for a region whose order is left open and that contains effects: whatever reads is taken first, what is left is walked in every order. -/
set_option linter.all false
namespace Go.Pe
open Go Go.RowKit

/-- done; an operation that is taken first; one that comes up; whichever of two. -/
inductive MP where
  | done
  | q (i : Nat) (m : MOp) (k : MP)
  | e (i : Nat) (m : MOp) (k : MP)
  | br (x y : MP)
/-- the bare plan: numbers alone. -/
inductive PS where
  | done
  | q (i : Nat) (k : PS)
  | e (i : Nat) (k : PS)
  | br (x y : PS)
def PS.tops : PS → List Nat
  | .e i _ => [i]
  | .br x y => x.tops ++ y.tops
  | _ => []
def PS.depth : PS → Nat
  | .done => 0
  | .q _ k => k.depth + 1
  | .e _ k => k.depth + 1
  | .br x y => max x.depth y.depth
/-- out of numbers: 0 done; 1 i: q; 2 i: e; 3: br. -/
def decP : Nat → List Nat → Option (PS × List Nat)
  | 0, _ => none
  | _ + 1, 0 :: r => some (.done, r)
  | n + 1, 1 :: i :: r => (decP n r).map fun p => (.q i p.1, p.2)
  | n + 1, 2 :: i :: r => (decP n r).map fun p => (.e i p.1, p.2)
  | n + 1, 3 :: r => (decP n r).bind fun p => (decP n p.2).map fun u => (.br p.1 u.1, u.2)
  | _, _ => none
/-- the objects that an operation of a plan looks into. -/
def opRefs (s : St) (m : MOp) : List Nat := moRefs (look s.e) m.op
def addR : List Nat → List Nat → List Nat
  | [], R => R
  | x :: xs, R => if R.contains x then addR xs R else x :: addR xs R
theorem mem_addR {r : Nat} : ∀ {xs R : List Nat}, (r ∈ xs ∨ r ∈ R) → r ∈ addR xs R
  | [], R, h => h.resolve_left (by simp)
  | x :: xs, R, h => by
    unfold addR
    split
    · rename_i hc
      rcases h with h | h
      · rcases List.mem_cons.1 h with rfl | h
        · exact mem_addR (.inr (List.contains_iff_mem.1 hc))
        · exact mem_addR (.inl h)
      · exact mem_addR (.inr h)
    · rcases h with h | h
      · rcases List.mem_cons.1 h with rfl | h
        · exact List.mem_cons_self ..
        · exact List.mem_cons_of_mem _ (mem_addR (.inl h))
      · exact List.mem_cons_of_mem _ (mem_addR (.inr h))
/-- hidden objects come back. -/
def hideOK (R : List Nat) (o : List Ob) (o' : List Ob) : Bool := R.all fun r => decide (r < o.length) && (match o[r]? with
  | some (.tag _ _) => false
  | _ => true) && (match o'[r]? with
  | some .dead => true
  | _ => false) && noTag r o'

/-- the walk of a plan. 'un': the operations that may change what was looked at. -/
def execA (P : PG) (un : List Nat) : MP → List Nat → St → (St → Prop) → Prop
  | .done, _, s, K => K s
  | .q _ m k, R, s, K => execR P [m] s fun s' => execA P un k (addR (opRefs s m) R) s' K
  | .e i m k, R, s, K => if un.contains i then execR P [m] s fun s' => execA P un k [] s' K
      else execR P [m] ⟨killL R s.e, hideO R s.o⟩ fun s' => hideOK R s.o s'.o = true ∧ execA P un k R ⟨showE R m.dst s.e s.e ++ killL R s'.e, showO s.o R s'.o⟩ K
  | .br x y, R, s, K => execA P un x R s K ∧ execA P un y R s K

/-- may the operation be taken first? -/
def freeQ (md : Region.Mode) (ops : Array Oper) (un : List Nat) (listed : Array Bool) (i : Nat) (mem : Bool) : Bool :=
  Region.free md ops listed i && (!mem || (List.range ops.size).all fun j => j == i || listed.getD j true || !un.contains j || match ops[j]? with
    | some oj => oj.after.any fun e => Region.binds md e && e.on == i
    | none => true)
def chk (P : Program) (n : Nat × Nat) (md : Region.Mode) (ops : Array Oper) (un : List Nat) (pm top : Bool) (listed : Array Bool) : PS → Bool
  | .done => top && (Region.ready md ops listed).isEmpty
  | .q i k => top && pm && (Region.ready md ops listed).contains i && freeQ md ops un listed i (match (ops[i]?).bind (compOp P n true ops) with
      | some m => memMO m.op
      | none => true) && chk P n md ops un pm true (listed.setIfInBounds i true) k
  | .e i k => (!top || Region.ready md ops listed == [i]) && (pm || un.contains i) && chk P n md ops un (pm && !un.contains i) true (listed.setIfInBounds i true) k
  | .br x y => (!top || Region.ready md ops listed == x.tops ++ y.tops) && chk P n md ops un pm false listed x && chk P n md ops un pm false listed y
/-- the plan with its operations. -/
def mkP (P : Program) (n : Nat × Nat) (ops : Array Oper) : PS → Option MP
  | .done => some .done
  | .q i k => match (ops[i]?).bind (compOp P n true ops), mkP P n ops k with
    | some m, some k' => if quietMO m.op then some (.q i m k') else none
    | _, _ => none
  | .e i k => match (ops[i]?).bind (compOp P n false ops), mkP P n ops k with
    | some m, some k' => some (.e i m k')
    | _, _ => none
  | .br x y => match mkP P n ops x, mkP P n ops y with
    | some x', some y' => some (.br x' y')
    | _, _ => none

/-! ### The walk of all orders. -/
section
variable {P : Program} {md : Region.Mode} {ops : Array Oper} {x : Nat → Bool} {Q : Exit → Act → World → Prop}
/-- whatever order is picked: what 'A' holds is kept by all of which 'x' says so. -/
def wpK (P : Program) (md : Region.Mode) (ops : Array Oper) (x : Nat → Bool) (Q : Exit → Act → World → Prop) (A : Nat → Prop) : Nat → Array Bool → Act → World → Prop
  | 0, listed, a, w => Region.ready md ops listed = [] ∧ Q .normal a w
  | fuel + 1, listed, a, w =>
    (Region.ready md ops listed = [] → Q .normal a w) ∧
    ∀ i ∈ Region.ready md ops listed, wpOp P ops Q i (fun a' w' => (x i = true → ∀ b, A b → w'.heap[b]? = w.heap[b]?) ∧ wpK P md ops x Q A fuel (listed.setIfInBounds i true) a' w') a w
theorem wpAny_of_K {A : Nat → Prop} : ∀ (fuel : Nat) (listed : Array Bool) (a : Act) (w : World), wpK P md ops x Q A fuel listed a w → wpAny P md ops Q fuel listed a w
  | 0, _, _, _, h => h
  | fuel + 1, _, _, _, h => ⟨h.1, fun i hi => wpOp_mono (fun a' w' h' => wpAny_of_K fuel _ a' w' h'.2) (h.2 i hi)⟩
theorem wpK_mono {A B : Nat → Prop} (hAB : ∀ b, B b → A b) : ∀ (fuel : Nat) (listed : Array Bool) (a : Act) (w : World), wpK P md ops x Q A fuel listed a w → wpK P md ops x Q B fuel listed a w
  | 0, _, _, _, h => h
  | fuel + 1, _, _, _, h => ⟨h.1, fun i hi => wpOp_mono (fun a' w' h' => ⟨fun hx b hb => h'.1 hx b (hAB b hb), wpK_mono hAB fuel _ a' w' h'.2⟩) (h.2 i hi)⟩
theorem wpK_done {A : Nat → Prop} {listed : Array Bool} {a : Act} {w : World} (hr : Region.ready md ops listed = []) (h : Q .normal a w) : ∀ fuel, wpK P md ops x Q A fuel listed a w
  | 0 => ⟨hr, h⟩
  | _ + 1 => ⟨fun _ => h, by rw [hr]; simp⟩
/-- one that reads is taken first. -/
theorem wpK_first {A : Nat → Prop} {mem : Bool} {w0 : World} {i : Nat} {oi : Oper} {v : Value} (hi : ops[i]? = some oi) (hsel : ∀ (j : Nat) (o : Oper) cs b, ops[j]? = some o → o.op ≠ .select cs b)
    (hQ : ∀ c a w, Q (.panic c) (a.put oi.dst v) w → Q (.panic c) a w) :
    ∀ (fuel : Nat) (listed : Array Bool) (a : Act) (w : World),
      (∀ j oj, ops[j]? = some oj → j ≠ i → listed.getD j true = false → (∀ e ∈ oj.after, Region.binds md e = true → e.on ≠ i) → oi.apart ops oj = true ∧ (mem = true → x j = true)) →
      i ∈ Region.ready md ops listed → YieldsIf P ops (fun w' => mem = true → ∀ b, A b → w'.heap[b]? = w0.heap[b]?) oi v a → (mem = true → ∀ b, A b → w.heap[b]? = w0.heap[b]?) →
      wpK P md ops x Q A fuel (listed.setIfInBounds i true) (a.put oi.dst v) w → wpK P md ops x Q A (fuel + 1) listed a w := by
  intro fuel
  induction fuel with
  | zero =>
    intro listed a w _ hr hy hS H
    refine ⟨fun h => (by rw [h] at hr; cases hr), fun j hj => ?_⟩
    by_cases hji : j = i
    · subst hji; exact hy.wpOp hi hS ⟨fun _ _ _ => rfl, H⟩
    · have := ready_mono hj hji
      rw [H.1] at this
      cases this
  | succ fuel ih =>
    intro listed a w hfree hr hy hS H
    refine ⟨fun h => (by rw [h] at hr; cases hr), fun j hj => ?_⟩
    by_cases hji : j = i
    · subst hji; exact hy.wpOp hi hS ⟨fun _ _ _ => rfl, H⟩
    · have h1 := H.2 j (ready_mono hj hji)
      obtain ⟨hjun, oj, hoj, hall⟩ := mem_ready.1 hj
      have hnot : ∀ e ∈ oj.after, Region.binds md e = true → e.on ≠ i := fun e he hb heq => by
        have h1 := hall e he hb
        have h0 := (mem_ready.1 hr).1
        rw [heq] at h1
        rcases Nat.lt_or_ge i listed.size with h' | h'
        · simp [h'] at h0 h1; rw [h0] at h1; cases h1
        · simp [Array.getElem?_eq_none h'] at h1
      obtain ⟨hap, hxj⟩ := hfree j oj hoj hji hjun hnot
      have h2 := wpOp_putIf hoj hap (fun cs b => hsel i oi cs b hi) (fun cs b => hsel j oj cs b hoj) hQ hy h1
      have hfree' : ∀ k ok, ops[k]? = some ok → k ≠ i → (listed.setIfInBounds j true).getD k true = false →
          (∀ e ∈ ok.after, Region.binds md e = true → e.on ≠ i) → oi.apart ops ok = true ∧ (mem = true → x k = true) := fun k ok hk hki hun hno => by
        refine hfree k ok hk hki ?_ hno
        by_cases hjk : j = k
        · subst hjk; exact hjun
        · rw [getD_set_ne true hjk] at hun; exact hun
      refine wpOp_mono (fun a' w' h3 => ⟨h3.2.1, ih (listed.setIfInBounds j true) a' w' hfree' (ready_mono hr (Ne.symm hji)) h3.1 (fun hm b hb => (h3.2.1 (hxj hm) b hb).trans (hS hm b hb)) ?_⟩) h2
      rw [Array.setIfInBounds_comm _ _ hji]
      exact h3.2.2
end

/-! ### One operation. -/
theorem Oper.wp_tmps {P : Program} {o : Oper} {a : Act} {w : World} {K : Act → World → Prop} {Q : Exit → Act → World → Prop} (h : o.wp P a w K Q) :
    o.wp P a w (fun a' w' => K a' w' ∧ ∀ t, o.dst ≠ some t → a'.tmps.getD t Go.undef = a.tmps.getD t Go.undef) Q := by
  have key : ∀ (a1 : Act) (v : Value), a1.tmps = a.tmps → ∀ t, o.dst ≠ some t → (a1.put o.dst v).tmps.getD t Go.undef = a.tmps.getD t Go.undef := by
    intro a1 v h1 t ht
    rw [← h1]
    cases hd : o.dst with
    | none => simp [Act.put]
    | some d =>
      rw [hd] at ht
      have : d ≠ t := fun e => ht (by rw [e])
      simp [Act.put, Array.getD_eq_getD_getElem?, Array.getElem?_setIfInBounds, this]
  unfold Oper.wp at *
  generalize (execOp a.eval o).run P w = r at *
  cases r with
  | ok n w' =>
    cases n <;> simp only [Oper.upon] at h ⊢ <;> first
      | exact ⟨h, key _ _ rfl⟩
      | exact Calls.mono h (fun e w'' he => by cases e <;> first | exact ⟨he, key _ _ rfl⟩ | exact he)
      | exact Rows.mono h (fun _ _ he => ⟨he, key _ _ rfl⟩)
  | halt x w' => cases x <;> simp only [Oper.upon] at h ⊢ <;> exact h
theorem wpOp_tmps {P : Program} {ops : Array Oper} {Q : Exit → Act → World → Prop} {i : Nat} {o : Oper} {K : Act → World → Prop} {a : Act} {w : World} (hi : ops[i]? = some o) (h : wpOp P ops Q i K a w) :
    wpOp P ops Q i (fun a' w' => K a' w' ∧ ∀ t, o.dst ≠ some t → a'.tmps.getD t Go.undef = a.tmps.getD t Go.undef) a w := by
  unfold wpOp at *
  simp only [hi] at h ⊢
  split
  · rename_i hw
    simp only [hw, if_true] at h
    exact h.imp Oper.wp_tmps id
  · rename_i hw
    simp only [hw, Bool.false_eq_true, if_false] at h
    refine ⟨h, fun t ht => ?_⟩
    cases hd : o.dst with
    | none => simp [Act.put]
    | some d =>
      rw [hd] at ht
      have : d ≠ t := fun e => ht (by rw [e])
      simp [Act.put, Array.getD_eq_getD_getElem?, Array.getElem?_setIfInBounds, this]

section
variable {c : Ctx} {ops : Array Oper} {s : St} {C : List OC} {a : Act} {w : World}
/-- one operation, walked: what it leaves. -/
theorem wpOp_of_exec {Q : Exit → Act → World → Prop} {i : Nat} {o : Oper} {m : MOp} {K : St → Prop} (hi : ops[i]? = some o) (hm : compOp c.P c.nn false ops o = some m) (hr : Rel c s C a w) (hx : execR c.G [m] s K) :
    wpOp c.P ops Q i (fun a' w' => ∃ s' C', K s' ∧ Rel c s' C' a' w') a w := by
  have h := wpList_of_exec (c := c) (ops := ops) (Q := fun e a' w' => e = .normal ∧ ∃ s' C', K s' ∧ Rel c s' C' a' w') (K := K) (fun s' C' a' w' h1 h2 => ⟨rfl, s', C', h2, h1⟩) [o] [m] s C a w (by simp only [compOps, hm]) hr hx
  unfold wpOp
  simp only [hi]
  simp only [wpList] at h
  split at h
  · rename_i hw
    simp only [hw, if_true]
    rcases h with h | ⟨_, h⟩
    · left
      unfold Oper.wp at h ⊢
      generalize (execOp a.eval o).run c.P w = r at *
      cases r with
      | ok n w' =>
        cases n <;> simp only [Oper.upon] at h ⊢ <;> first
          | exact h.2
          | exact Calls.mono h (fun e w'' he => by
              cases e with
              | returned v => exact he.2
              | panicked ch => exact absurd he.1 (by simp)
              | outgrown => obtain ⟨_, _, hh⟩ := he; exact absurd hh.1 (by simp))
          | exact Rows.mono h (fun _ _ he => he.2)
      | halt x w' => cases x <;> simp only [Oper.upon] at h ⊢ <;> first | exact h.elim | exact absurd h.1 (by simp)
    · obtain ⟨_, _, h⟩ := h
      exact absurd h.1 (by simp)
  · rename_i hw
    simp only [hw, Bool.false_eq_true, if_false]
    exact h.2
end
end Go.Pe

/- A plan's walk serves every order. -/
set_option linter.all false
namespace Go.Pe
open Go Go.RowKit
theorem chk_depth {P : Program} {n : Nat × Nat} {md : Region.Mode} {ops : Array Oper} {un : List Nat} {pm : Bool} {listed : Array Bool} : ∀ sk : PS, chk P n md ops un pm false listed sk = true → 1 ≤ sk.depth
  | .done, h => by simp [chk] at h
  | .q i k, h => by simp [chk] at h
  | .e i k, h => by simp [PS.depth]
  | .br x y, h => by
    simp only [chk, Bool.and_eq_true] at h
    have := chk_depth x h.1.2
    simp only [PS.depth]; omega
theorem tops_ne {P : Program} {n : Nat × Nat} {md : Region.Mode} {ops : Array Oper} {un : List Nat} {pm : Bool} {listed : Array Bool} : ∀ (x : PS), chk P n md ops un pm false listed x = true → ∀ y : PS, x.tops ++ y.tops ≠ []
  | .done, h, _ => by simp [chk] at h
  | .q i k, h, _ => by simp [chk] at h
  | .e i k, h, _ => by simp [PS.tops]
  | .br x y, h, z => by
    simp only [chk, Bool.and_eq_true] at h
    have := tops_ne x h.1.2 y
    simp only [PS.tops]
    intro e
    exact this (List.append_eq_nil_iff.1 e).1
theorem freeQ_spec {md : Region.Mode} {ops : Array Oper} {un : List Nat} {listed : Array Bool} {i : Nat} {mem : Bool} {oi : Oper} (hi : ops[i]? = some oi) (h : freeQ md ops un listed i mem = true) (j : Nat) (oj : Oper) (hj : ops[j]? = some oj) (hne : j ≠ i) (hun : listed.getD j true = false)
    (hno : ∀ e ∈ oj.after, Region.binds md e = true → e.on ≠ i) : oi.apart ops oj = true ∧ (mem = true → (!un.contains j) = true) := by
  simp only [freeQ, Bool.and_eq_true] at h
  refine ⟨Region.free_spec hi h.1 j oj hj hne hun hno, fun hm => ?_⟩
  have h2 := h.2
  rw [hm] at h2
  simp only [Bool.not_true, Bool.false_or, List.all_eq_true, List.mem_range] at h2
  have h3 := h2 j (Array.getElem?_eq_some_iff.1 hj).1
  simp only [hj, Bool.or_eq_true, beq_iff_eq, hne, false_or, hun, Bool.false_eq_true] at h3
  rcases h3 with h3 | h3
  · exact h3
  · obtain ⟨e, he, hb⟩ := Array.any_eq_true'.1 h3
    simp only [Bool.and_eq_true, beq_iff_eq] at hb
    exact absurd hb.2 (hno e he hb.1)
section
variable {c : Ctx} {ops : Array Oper} {s : St} {C : List OC} {a : Act} {w : World}
/-- an operation that reads, walked. -/
theorem q_step {i : Nat} {o : Oper} {m : MOp} {K : St → Prop} (hi : ops[i]? = some o) (hm : compOp c.P c.nn true ops o = some m) (hq : quietMO m.op = true) (hr : Rel c s C a w) (hx : execR c.G [m] s K) :
    ∃ sv v, K ⟨putE s.e m.dst sv, s.o⟩ ∧ RelV w (Ms c C) C sv v ∧ ∃ B : Nat → Prop, (∀ b, B b → okB w c C (opRefs s m) b) ∧ (memMO m.op = false → ∀ b, ¬ B b) ∧ YieldsIf c.P ops (fun w' => ∀ b, B b → w'.heap[b]? = w.heap[b]?) o v a := by
  obtain ⟨hd, hg, hdn⟩ := compOp_dst hm
  have hw := wantS_guard (E := look s.e) hg
  have hmo : m.eff = false ∧ compP c.P true o.op = some m.op := by
    unfold compOp at hm
    split at hm
    · split at hm
      · cases hm
      · simp only [if_true] at hm
        obtain ⟨mo, h1, rfl⟩ := Option.map_eq_some_iff.1 hm
        exact ⟨rfl, h1⟩
    · cases hm
  have yes : wantS ops o (look s.e) = some true → (stepO c.G s m.eff m.op fun sv s' => execR c.G [] ⟨putE s'.e m.dst sv, s'.o⟩ K) → ∃ sv v, K ⟨putE s.e m.dst sv, s.o⟩ ∧ RelV w (Ms c C) C sv v ∧ ∃ B : Nat → Prop, (∀ b, B b → okB w c C (opRefs s m) b) ∧ (memMO m.op = false → ∀ b, ¬ B b) ∧ YieldsIf c.P ops (fun w' => ∀ b, B b → w'.heap[b]? = w.heap[b]?) o v a := by
    intro hwt hs
    have hwm := wantS_wanted hr.relE hwt
    rw [hmo.1] at hs
    simp only [stepO] at hs
    obtain ⟨sv, hK, hy⟩ := stepQ (c := c) (C := C) hq hmo.2 hs
    obtain ⟨v, h1, h2, B, h3, h4, h5⟩ := hy a w hr.wd (fun t _ => hr.env t)
    exact ⟨sv, v, hK, h2, B, h3, h4, .inl ⟨hwm, h5⟩⟩
  have no : wantS ops o (look s.e) = some false → K ⟨putE s.e m.dst .undef, s.o⟩ → ∃ sv v, K ⟨putE s.e m.dst sv, s.o⟩ ∧ RelV w (Ms c C) C sv v ∧ ∃ B : Nat → Prop, (∀ b, B b → okB w c C (opRefs s m) b) ∧ (memMO m.op = false → ∀ b, ¬ B b) ∧ YieldsIf c.P ops (fun w' => ∀ b, B b → w'.heap[b]? = w.heap[b]?) o v a := by
    intro hwt hs
    have hwm := wantS_wanted hr.relE hwt
    exact ⟨.undef, Go.undef, hs, rfl, fun _ => False, fun b hb => hb.elim, fun _ _ h => h, .inr ⟨hwm, rfl⟩⟩
  unfold execR at hx
  split at hx
  · rename_i hgn
    rw [hgn] at hw
    simp only [wantG] at hw
    exact yes hw hx
  · rename_i t want hgs
    rw [hgs] at hw
    simp only [wantG] at hw
    split at hx
    · rename_i b hb
      rw [hb] at hw
      simp only [] at hw
      by_cases e : b = want
      · exact yes (by rw [hw, e]; simp) (hx.1 e)
      · have e' : b = !want := by cases b <;> cases want <;> simp_all
        exact no (by rw [hw, e']; cases want <;> rfl) (hx.2 e')
    · rename_i hb
      rw [hb] at hw
      exact no hw hx
    · exact hx.elim

theorem plan_sound {un : List Nat} {K : St → Prop} {Q : Exit → Act → World → Prop} (hsel : Region.noSelect ops = true) (hQ : ∀ s C a w, Rel c s C a w → K s → Q .normal a w) (hP : ∀ ch a w, ¬ Q (.panic ch) a w) :
    ∀ (sk : PS) (p : MP) (pm top : Bool) (listed : Array Bool) (fuel : Nat) (R : List Nat) (s : St) (C : List OC) (a : Act) (w : World) (A : Nat → Prop),
      chk c.P c.nn .any ops un pm top listed sk = true → mkP c.P c.nn ops sk = some p → sk.depth ≤ fuel → Rel c s C a w → (pm = true → ∀ b, A b → okB w c C R b) → execA c.G un p R s K →
      (top = true → wpK c.P .any ops (fun i => !un.contains i) Q A fuel listed a w) ∧
      (top = false → ∀ i ∈ sk.tops, wpOp c.P ops Q i (fun a' w' => ((!un.contains i) = true → ∀ b, A b → w'.heap[b]? = w.heap[b]?) ∧ wpK c.P .any ops (fun i => !un.contains i) Q A (fuel - 1) (listed.setIfInBounds i true) a' w') a w) := by
  intro sk
  induction sk with
  | done =>
    intro p pm top listed fuel R s C a w A hc hm hf hr hA hx
    simp only [chk, Bool.and_eq_true, List.isEmpty_iff] at hc
    injection hm with hm
    subst hm
    exact ⟨fun _ => wpK_done hc.2 (hQ s C a w hr hx) fuel, fun h => by rw [hc.1] at h; cases h⟩
  | q i k ih =>
    intro p pm top listed fuel R s C a w A hc hm hf hr hA hx
    simp only [chk, Bool.and_eq_true] at hc
    obtain ⟨⟨⟨⟨ht, hpm⟩, hrd⟩, hfr⟩, hc⟩ := hc
    simp only [mkP] at hm
    split at hm
    · rename_i m k' h1 h2
      split at hm
      · rename_i hq
        injection hm with hm
        subst hm
        rw [h1] at hfr
        simp only [] at hfr
        obtain ⟨o, hi, hmo⟩ := Option.bind_eq_some_iff.1 h1
        simp only [execA] at hx
        obtain ⟨sv, v, hK, hv, B, hB, hnm, hy⟩ := q_step hi hmo hq hr hx
        obtain ⟨hd, _, hdn⟩ := compOp_dst hmo
        obtain ⟨f, rfl⟩ : ∃ f, fuel = f + 1 := ⟨fuel - 1, by simp only [PS.depth] at hf; omega⟩
        have hr' : Rel c ⟨putE s.e m.dst sv, s.o⟩ C (a.put o.dst v) w := by rw [hd]; exact hr.put (Ext.refl w) hdn hv
        have := (ih k' pm true (listed.setIfInBounds i true) f (addR (opRefs s m) R) _ C (a.put o.dst v) w (fun b => A b ∨ B b) hc h2 (by simp only [PS.depth] at hf; omega) hr' (fun _ b hb => by
          rcases hb with hb | hb
          · obtain ⟨g1, g2⟩ := hA hpm b hb
            exact ⟨g1, g2.imp id fun ⟨r, hr, x⟩ => ⟨r, mem_addR (.inr hr), x⟩⟩
          · obtain ⟨g1, g2⟩ := hB b hb
            exact ⟨g1, g2.imp id fun ⟨r, hr, x⟩ => ⟨r, mem_addR (.inl hr), x⟩⟩) hK).1 rfl
        refine ⟨fun _ => wpK_mono (fun b hb => .inl hb) _ _ _ _ (wpK_first (mem := memMO m.op) (w0 := w) hi (Region.noSelect_spec hsel) (fun ch a w h => absurd h (hP _ _ _)) f listed a w (freeQ_spec hi hfr) (by simpa using hrd) ?_ (fun _ _ _ => rfl) this), fun h => by rw [ht] at h; cases h⟩
        rcases hy with ⟨hw, hy⟩ | hy
        · refine .inl ⟨hw, fun w' hS => hy w' fun b hb => ?_⟩
          cases hmm : memMO m.op with
          | true => exact hS hmm b (.inr hb)
          | false => exact absurd hb (hnm hmm b)
        · exact .inr hy
      · cases hm
    · cases hm
  | e i k ih =>
    intro p pm top listed fuel R s C a w A hc hm hf hr hA hx
    simp only [chk, Bool.and_eq_true] at hc
    obtain ⟨⟨ht, hpm⟩, hc⟩ := hc
    simp only [mkP] at hm
    split at hm
    · rename_i m k' h1 h2
      injection hm with hm
      subst hm
      obtain ⟨o, hi, hmo⟩ := Option.bind_eq_some_iff.1 h1
      obtain ⟨f, rfl⟩ : ∃ f, fuel = f + 1 := ⟨fuel - 1, by simp only [PS.depth] at hf; omega⟩
      have hf' : k.depth ≤ f := by simp only [PS.depth] at hf; omega
      have main : wpOp c.P ops Q i (fun a' w' => ((!un.contains i) = true → ∀ b, A b → w'.heap[b]? = w.heap[b]?) ∧ wpK c.P .any ops (fun i => !un.contains i) Q A f (listed.setIfInBounds i true) a' w') a w := by
        simp only [execA] at hx
        by_cases hu : un.contains i = true
        · rw [if_pos hu] at hx
          refine wpOp_mono ?_ (wpOp_of_exec (Q := Q) hi hmo hr hx)
          rintro a' w' ⟨s', C', hK, hr'⟩
          exact ⟨(fun h => by rw [hu] at h; cases h), (ih k' _ true _ f [] s' C' a' w' A hc h2 hf' hr' (fun h => by rw [hu] at h; simp at h) hK).1 rfl⟩
        · rw [if_neg hu] at hx
          have hpm' : pm = true := by rw [Bool.or_eq_true] at hpm; exact hpm.resolve_right hu
          have h3 := wpOp_tmps hi (wpOp_of_exec (c := hideX c C R w) (Q := Q) hi hmo (hide_rel hr R) hx)
          refine wpOp_mono ?_ h3
          rintro a' w' ⟨⟨s', C', ⟨hok, hK⟩, hr'⟩, htm⟩
          obtain ⟨hdst, _, _⟩ := compOp_dst hmo
          simp only [hideOK, List.all_eq_true, Bool.and_eq_true, decide_eq_true_eq] at hok
          obtain ⟨g1, g2⟩ := show_rel (dst := m.dst) hr (fun r hm => (hok r hm).1.1.1) (fun q hm r v e => by have := (hok q hm).1.1.2; rw [e] at this; cases this) hr'
            (fun r hm => by
              have := (hok r hm).1.2
              split at this
              · rename_i h; exact h
              · cases this)
            (fun r hm => (hok r hm).2) (by rw [hdst]; exact htm)
          refine ⟨fun _ b hb => (g2 b (hA hpm' b hb)).1, (ih k' _ true _ f R _ _ a' w' A hc h2 hf' g1 (fun _ b hb => (g2 b (hA hpm' b hb)).2) hK).1 rfl⟩
      refine ⟨fun htt => ?_, fun _ j hj => ?_⟩
      · rw [htt] at ht
        have hrd : Region.ready .any ops listed = [i] := by simpa using ht
        refine ⟨(fun h => by rw [hrd] at h; cases h), fun j hj => ?_⟩
        rw [hrd] at hj
        obtain rfl : j = i := by simpa using hj
        exact main
      · obtain rfl : j = i := by simpa [PS.tops] using hj
        exact main
    · cases hm
  | br x y ihx ihy =>
    intro p pm top listed fuel R s C a w A hc hm hf hr hA hx
    simp only [chk, Bool.and_eq_true] at hc
    obtain ⟨⟨ht, hcx⟩, hcy⟩ := hc
    simp only [mkP] at hm
    split at hm
    · rename_i x' y' h1 h2
      injection hm with hm
      subst hm
      simp only [execA] at hx
      have hdx := chk_depth x hcx
      simp only [PS.depth] at hf
      have gx := (ihx x' pm false listed fuel R s C a w A hcx h1 (by omega) hr hA hx.1).2 rfl
      have gy := (ihy y' pm false listed fuel R s C a w A hcy h2 (by omega) hr hA hx.2).2 rfl
      have all : ∀ i ∈ (PS.br x y).tops, wpOp c.P ops Q i (fun a' w' => ((!un.contains i) = true → ∀ b, A b → w'.heap[b]? = w.heap[b]?) ∧ wpK c.P .any ops (fun i => !un.contains i) Q A (fuel - 1) (listed.setIfInBounds i true) a' w') a w := by
        intro i hi
        rcases List.mem_append.1 hi with hi | hi
        · exact gx i hi
        · exact gy i hi
      refine ⟨fun htt => ?_, fun _ => all⟩
      rw [htt] at ht
      have hrd : Region.ready .any ops listed = x.tops ++ y.tops := by simpa using ht
      obtain ⟨f, rfl⟩ : ∃ f, fuel = f + 1 := ⟨fuel - 1, by omega⟩
      refine ⟨fun h => ?_, fun j hj => by rw [hrd] at hj; exact all j hj⟩
      -- nothing may come up: then there was no head
      rw [hrd] at h
      exact absurd h (tops_ne x hcx y)
    · cases hm
/-- the plan of a region: [k, the k operations that may change what was looked at, the plan's numbers]. -/
def planOf (P : Program) (n : Nat × Nat) (ops : Array Oper) (ts : List Nat) : Option (List Nat × MP) := match ts with
  | [] => none
  | k :: r => match decP (r.length + 1) (r.drop k) with
    | some (sk, []) => if P.follows .mixedOrders && Region.noSelect ops && chk P n .any ops (r.take k) true true (Array.replicate ops.size false) sk && decide (sk.depth ≤ ops.size) then (mkP P n ops sk).map fun p => (r.take k, p) else none
    | _ => none
theorem wp_region_plan {ts un : List Nat} {p : MP} {id : Nat} {K : St → Prop} {Q : Exit → Act → World → Prop} (hp : planOf c.P c.nn ops ts = some (un, p)) (hr : Rel c s C a w) (hx : execA c.G un p [] s K) (hQ : ∀ s C a w, Rel c s C a w → K s → Q .normal a w) : (Code.region id ops true).wp c.P Q a w := by
  unfold planOf at hp
  split at hp
  · cases hp
  · rename_i k r
    split at hp
    · rename_i sk hd
      split at hp
      · rename_i hc
        simp only [Bool.and_eq_true, decide_eq_true_eq] at hc
        obtain ⟨⟨⟨h1, h2⟩, h3⟩, h4⟩ := hc
        obtain ⟨p', hp1, hp2⟩ := Option.map_eq_some_iff.1 hp
        injection hp2 with e1 e2
        subst e1 e2
        have hx2 : Ext w { w with drawn := w.drawn + 1 } := ⟨rfl, rfl, rfl, Nat.le_refl _, fun _ _ => rfl⟩
        have hr' : Rel c s C a { w with drawn := w.drawn + 1 } := ⟨hr.tmps, hr.defers, fun t => (hr.env t).ext hx2, hr.wd.ext hx2, hr.fix⟩
        have := (plan_sound (c := c) (ops := ops) (un := r.take k) (K := K) (Q := fun e a w => e = .normal ∧ Q .normal a w) h2 (fun s C a w h1 h2 => ⟨rfl, hQ s C a w h1 h2⟩) (fun ch a w h => by cases h.1) sk p' true true _ ops.size [] s C a _ (fun _ => False) h3 hp1 h4 hr' (fun _ b hb => hb.elim) hx).1 rfl
        refine Code.wp_mono ?_ (wp_region_any h1 (wpAny_of_K _ _ _ _ this))
        rintro e a w ⟨rfl, h⟩
        exact h
      · cases hp
    · cases hp
end
end Go.Pe

/- The whole of a function's code, walked; and how a contract comes of it. -/
namespace Go.Pe
open Go Go.RowKit

inductive MC where
  | skip
  | reg (draw : Bool) (lv : List Nat) (ops : List MOp)
  | seq (a b : MC)
  | cond (c : Opd) (a b : MC)
  | block (id : Nat) (b : MC)
  | loop (b : MC)
  | exit (id : Nat)
  | ret
  | hole
  /-- a region whose order is left open, by a plan. -/
  | any (un : List Nat) (lv : List Nat) (p : MP)
  /-- no code: here the walk may tell the state anew. -/
  | gh (m : MC)

def lookL (lv : List (Nat × List Nat)) (id : Nat) : List Nat :=
  match lv with
  | [] => []
  | (k, l) :: r => if k = id then l else lookL r id

/-- the operations in the order of the text, where no plan is told. -/
def regOps (P : Program) (n : Nat × Nat) (lv : List (Nat × List Nat)) (id : Nat) (draw : Bool) (ops : Array Oper) : Option (List MOp) :=
  if draw && !(lookL lv (id + 1000000)).isEmpty then none else compOps P n draw ops ops.toList
theorem regOps_some {P : Program} {n : Nat × Nat} {lv : List (Nat × List Nat)} {id : Nat} {draw : Bool} {ops : Array Oper} {ms : List MOp} (h : regOps P n lv id draw ops = some ms) : compOps P n draw ops ops.toList = some ms := by
  unfold regOps at h
  split at h
  · cases h
  · exact h
def comp (P : Program) (n : Nat × Nat) (lv : List (Nat × List Nat)) : Code → Option MC
  | .skip => some .skip
  | .region id ops draw => match regOps P n lv id draw ops with
    | some ms => if draw then (if P.follows .mixedOrders && Region.lexB .any ops then some (.reg true (lookL lv id) ms) else none) else some (.reg false (lookL lv id) ms)
    | none => if draw then (match planOf P n ops (lookL lv (id + 1000000)) with
      | some (un, p) => some (.any un (lookL lv id) p)
      | none => some .hole) else some .hole
  | .seq a b => match comp P n lv a, comp P n lv b with
    | some x, some y => some (.seq x y)
    | _, _ => none
  | .cond c a b => match opd c, comp P n lv a, comp P n lv b with
    | some c, some x, some y => some (.cond c x y)
    | _, _, _ => none
  | .block id b => (comp P n lv b).map (.block id)
  | .loop b => (comp P n lv b).map .loop
  | .exit id => some (.exit id)
  | .ret => some .ret
  | _ => none

def erase : MC → MC
  | .seq a b => .seq (erase a) (erase b)
  | .cond c a b => .cond c (erase a) (erase b)
  | .block id b => .block id (erase b)
  | .loop b => .loop (erase b)
  | .gh m => erase m
  | m => m

/-- a ghost step stands ahead of the piece that the path leads to. -/
def ghAt : List Nat → MC → MC
  | [], m => .gh m
  | 0 :: p, .seq a b => .seq (ghAt p a) b
  | _ :: p, .seq a b => .seq a (ghAt p b)
  | 0 :: p, .cond c a b => .cond c (ghAt p a) b
  | _ :: p, .cond c a b => .cond c a (ghAt p b)
  | _ :: p, .block id b => .block id (ghAt p b)
  | _ :: p, .loop b => .loop (ghAt p b)
  | _ :: p, .gh m => .gh (ghAt p m)
  | _, m => m
def ghAll : List (List Nat) → MC → MC
  | [], m => m
  | p :: ps, m => ghAll ps (ghAt p m)

theorem erase_ghAt : ∀ (p : List Nat) (m : MC), erase (ghAt p m) = erase m := by
  intro p m
  induction m generalizing p with
  | seq a b iha ihb => cases p with
    | nil => rfl
    | cons k p => cases k <;> simp [ghAt, erase, iha, ihb]
  | cond c a b iha ihb => cases p with
    | nil => rfl
    | cons k p => cases k <;> simp [ghAt, erase, iha, ihb]
  | block id b ih => cases p with
    | nil => rfl
    | cons k p => cases k <;> simp [ghAt, erase, ih]
  | loop b ih => cases p with
    | nil => rfl
    | cons k p => cases k <;> simp [ghAt, erase, ih]
  | gh b ih => cases p with
    | nil => rfl
    | cons k p => cases k <;> simp [ghAt, erase, ih]
  | _ => cases p with
    | nil => rfl
    | cons k p => cases k <;> rfl
theorem erase_ghAll : ∀ (ps : List (List Nat)) (m : MC), erase (ghAll ps m) = erase m
  | [], _ => rfl
  | p :: ps, m => by rw [ghAll, erase_ghAll ps, erase_ghAt]

theorem comp_erase {P : Program} {n : Nat × Nat} {lv : List (Nat × List Nat)} : ∀ (code : Code) (m : MC), comp P n lv code = some m → erase m = m := by
  intro code
  induction code with
  | seq a b iha ihb =>
    intro m h
    simp only [comp] at h
    split at h
    · rename_i x y h1 h2
      injection h with h
      subst h
      simp only [erase, iha _ h1, ihb _ h2]
    · cases h
  | cond c a b iha ihb =>
    intro m h
    simp only [comp] at h
    split at h
    · rename_i p x y h0 h1 h2
      injection h with h
      subst h
      simp only [erase, iha _ h1, ihb _ h2]
    · cases h
  | block id b ih =>
    intro m h
    obtain ⟨x, h1, rfl⟩ := Option.map_eq_some_iff.1 h
    simp only [erase, ih _ h1]
  | loop b ih =>
    intro m h
    obtain ⟨x, h1, rfl⟩ := Option.map_eq_some_iff.1 h
    simp only [erase, ih _ h1]
  | region id ops d =>
    intro m h
    simp only [comp] at h
    split at h
    · split at h
      · split at h
        · injection h with h; subst h; rfl
        · cases h
      · injection h with h; subst h; rfl
    · split at h
      · split at h
        · injection h with h; subst h; rfl
        · injection h with h; subst h; rfl
      · injection h with h; subst h; rfl
  | skip => intro m h; injection h with h; subst h; rfl
  | exit id => intro m h; injection h with h; subst h; rfl
  | ret => intro m h; injection h with h; subst h; rfl
  | _ => intro m h; cases h

def keepE : List Nat → Env → Env
  | [], _ => []
  | t :: ts, e => (t, look e t) :: keepE ts e

theorem look_keepE : ∀ (ts : List Nat) (e : Env) (t : Nat), look (keepE ts e) t = .any ∨ look (keepE ts e) t = look e t
  | [], e, t => .inl rfl
  | k :: ts, e, t => by
    simp only [keepE, look]
    by_cases h : k = t
    · subst h; simp
    · rw [if_neg h]; exact look_keepE ts e t

/-- from a state that s tells of, the code goes through, to exits and states of which Q holds. -/
def MWp (c : Ctx) (m : MC) (s : St) (Q : Exit → St → Prop) : Prop :=
  ∀ lv code, comp c.P c.nn lv code = some m → ∀ C a w, Rel c s C a w → code.wp c.P (fun e a' w' => ∃ s' C', Q e s' ∧ Rel c s' C' a' w') a w

def thenQ (k : St → Prop) (Q : Exit → St → Prop) : Exit → St → Prop
  | .normal, s => k s
  | e, s => Q e s

def inB (id : Nat) (Q : Exit → St → Prop) : Exit → St → Prop
  | .exit i, s => if i = id then Q .normal s else Q (.exit i) s
  | e, s => Q e s

section
variable {c : Ctx} {s : St} {Q : Exit → St → Prop}

theorem Rel.weak {C : List OC} {a : Act} {w : World} {e' : Env} (h : Rel c s C a w) (he : ∀ t, look e' t = .any ∨ look e' t = look s.e t) : Rel c ⟨e', s.o⟩ C a w where
  tmps := h.tmps
  defers := h.defers
  env := fun t => by
    rcases he t with h1 | h1
    · simp only [h1]; trivial
    · simp only [h1]; exact h.env t
  wd := h.wd
  fix := h.fix

theorem mwp_skip (h : Q .normal s) : MWp c .skip s Q := by
  intro lv code hc C a w hr
  cases code <;> simp only [comp] at hc
  case skip => exact wp_skip ⟨s, C, h, hr⟩
  all_goals first
    | (split at hc <;> (try split at hc) <;> (try split at hc) <;> first | cases hc | (injection hc with hc; cases hc))
    | (simp only [Option.map_eq_some_iff] at hc; obtain ⟨_, _, hc⟩ := hc; cases hc)
    | (injection hc with hc; cases hc)
    | cases hc

theorem comp_seq {lv : List (Nat × List Nat)} {code : Code} {x y : MC} (hc : comp c.P c.nn lv code = some (.seq x y)) : ∃ a b, code = .seq a b ∧ comp c.P c.nn lv a = some x ∧ comp c.P c.nn lv b = some y := by
  cases code <;> simp only [comp] at hc
  case seq a b =>
    split at hc
    · rename_i x' y' h1 h2
      injection hc with hc
      injection hc with hx hy
      subst hx hy
      exact ⟨a, b, rfl, h1, h2⟩
    · cases hc
  all_goals first
    | (split at hc <;> (try split at hc) <;> (try split at hc) <;> first | cases hc | (injection hc with hc; cases hc))
    | (simp only [Option.map_eq_some_iff] at hc; obtain ⟨_, _, hc⟩ := hc; cases hc)
    | (injection hc with hc; cases hc)
    | cases hc

theorem comp_cond {lv : List (Nat × List Nat)} {code : Code} {p : Opd} {x y : MC} (hc : comp c.P c.nn lv code = some (.cond p x y)) : ∃ q a b, code = .cond q a b ∧ opd q = some p ∧ comp c.P c.nn lv a = some x ∧ comp c.P c.nn lv b = some y := by
  cases code <;> simp only [comp] at hc
  case cond q a b =>
    split at hc
    · rename_i p' x' y' h0 h1 h2
      injection hc with hc
      injection hc with hp hx hy
      subst hp hx hy
      exact ⟨q, a, b, rfl, h0, h1, h2⟩
    · cases hc
  all_goals first
    | (split at hc <;> (try split at hc) <;> (try split at hc) <;> first | cases hc | (injection hc with hc; cases hc))
    | (simp only [Option.map_eq_some_iff] at hc; obtain ⟨_, _, hc⟩ := hc; cases hc)
    | (injection hc with hc; cases hc)
    | cases hc

theorem comp_block {lv : List (Nat × List Nat)} {code : Code} {id : Nat} {x : MC} (hc : comp c.P c.nn lv code = some (.block id x)) : ∃ b, code = .block id b ∧ comp c.P c.nn lv b = some x := by
  cases code <;> simp only [comp] at hc
  case block id' b =>
    obtain ⟨x', h1, h2⟩ := Option.map_eq_some_iff.1 hc
    injection h2 with h2 h3
    subst h2 h3
    exact ⟨b, rfl, h1⟩
  all_goals first
    | (split at hc <;> (try split at hc) <;> (try split at hc) <;> first | cases hc | (injection hc with hc; cases hc))
    | (simp only [Option.map_eq_some_iff] at hc; obtain ⟨_, _, hc⟩ := hc; cases hc)
    | (injection hc with hc; cases hc)
    | cases hc

theorem comp_loop {lv : List (Nat × List Nat)} {code : Code} {x : MC} (hc : comp c.P c.nn lv code = some (.loop x)) : ∃ b, code = .loop b ∧ comp c.P c.nn lv b = some x := by
  cases code <;> simp only [comp] at hc
  case loop b =>
    obtain ⟨x', h1, h2⟩ := Option.map_eq_some_iff.1 hc
    injection h2 with h2
    subst h2
    exact ⟨b, rfl, h1⟩
  all_goals first
    | (split at hc <;> (try split at hc) <;> (try split at hc) <;> first | cases hc | (injection hc with hc; cases hc))
    | (simp only [Option.map_eq_some_iff] at hc; obtain ⟨_, _, hc⟩ := hc; cases hc)
    | (injection hc with hc; cases hc)
    | cases hc

theorem comp_exit {lv : List (Nat × List Nat)} {code : Code} {id : Nat} (hc : comp c.P c.nn lv code = some (.exit id)) : code = .exit id := by
  cases code <;> simp only [comp] at hc
  case exit => injection hc with hc; injection hc with hc; subst hc; rfl
  all_goals first
    | (split at hc <;> (try split at hc) <;> (try split at hc) <;> first | cases hc | (injection hc with hc; cases hc))
    | (simp only [Option.map_eq_some_iff] at hc; obtain ⟨_, _, hc⟩ := hc; cases hc)
    | (injection hc with hc; cases hc)
    | cases hc

theorem comp_ret {lv : List (Nat × List Nat)} {code : Code} (hc : comp c.P c.nn lv code = some .ret) : code = .ret := by
  cases code <;> simp only [comp] at hc
  case ret => rfl
  all_goals first
    | (split at hc <;> (try split at hc) <;> (try split at hc) <;> first | cases hc | (injection hc with hc; cases hc))
    | (simp only [Option.map_eq_some_iff] at hc; obtain ⟨_, _, hc⟩ := hc; cases hc)
    | (injection hc with hc; cases hc)
    | cases hc

theorem comp_reg {lv : List (Nat × List Nat)} {code : Code} {draw : Bool} {l : List Nat} {ms : List MOp} (hc : comp c.P c.nn lv code = some (.reg draw l ms)) :
    ∃ id ops, code = .region id ops draw ∧ compOps c.P c.nn draw ops ops.toList = some ms ∧ (draw = true → c.P.follows .mixedOrders = true ∧ Region.lexB .any ops = true) := by
  cases code <;> simp only [comp] at hc
  case region id ops d =>
    split at hc
    · rename_i ms' h1
      have h1 := regOps_some h1
      cases d with
      | true =>
        simp only [if_true] at hc
        split at hc
        · rename_i h2
          injection hc with hc
          injection hc with h3 _ h5
          subst h3 h5
          exact ⟨id, ops, rfl, h1, fun _ => by simpa using h2⟩
        · cases hc
      | false =>
        simp only [Bool.false_eq_true, if_false] at hc
        injection hc with hc
        injection hc with h3 _ h5
        subst h3 h5
        exact ⟨id, ops, rfl, h1, fun h => by cases h⟩
    · cases d with
      | true =>
        simp only [if_true] at hc
        split at hc <;> (injection hc with hc; cases hc)
      | false =>
        simp only [Bool.false_eq_true, if_false] at hc
        injection hc with hc; cases hc
  all_goals first
    | (split at hc <;> (try split at hc) <;> (try split at hc) <;> first | cases hc | (injection hc with hc; cases hc))
    | (simp only [Option.map_eq_some_iff] at hc; obtain ⟨_, _, hc⟩ := hc; cases hc)
    | (injection hc with hc; cases hc)
    | cases hc

theorem comp_any {lv : List (Nat × List Nat)} {code : Code} {un l : List Nat} {p : MP} (hc : comp c.P c.nn lv code = some (.any un l p)) :
    ∃ id ops ts, code = .region id ops true ∧ planOf c.P c.nn ops ts = some (un, p) := by
  cases code <;> simp only [comp] at hc
  case region id ops d =>
    split at hc
    · split at hc
      · split at hc
        · injection hc with hc; cases hc
        · cases hc
      · injection hc with hc; cases hc
    · cases d with
      | true =>
        simp only [if_true] at hc
        split at hc
        · rename_i un' p' h1
          injection hc with hc
          injection hc with h2 h3 h4
          subst h2 h4
          exact ⟨id, ops, _, rfl, h1⟩
        · injection hc with hc; cases hc
      | false =>
        simp only [Bool.false_eq_true, if_false] at hc
        injection hc with hc; cases hc
  all_goals first
    | (split at hc <;> (try split at hc) <;> (try split at hc) <;> first | cases hc | (injection hc with hc; cases hc))
    | (simp only [Option.map_eq_some_iff] at hc; obtain ⟨_, _, hc⟩ := hc; cases hc)
    | (injection hc with hc; cases hc)
    | cases hc

theorem compOps_dst {draw : Bool} {ops : Array Oper} : ∀ (os : List Oper) (ms : List MOp), compOps c.P c.nn draw ops os = some ms → ∀ o ∈ os, ∀ d, o.dst = some d → c.lo ≤ d ∧ d < c.n
  | [], _, _ => fun o h => by cases h
  | o :: os, ms, h => by
    unfold compOps at h
    split at h
    · rename_i m ms' h1 h2
      intro o' ho
      rcases List.mem_cons.1 ho with ho | ho
      · subst ho; exact (compOp_dst h1).2.2
      · exact compOps_dst os ms' h2 o' ho
    · cases h

/-- a region: walked with what follows behind a variable. -/
theorem mwp_reg {draw : Bool} {lv : List Nat} {ms : List MOp} (h : ∀ K : St → Prop, (∀ e o, Q .normal ⟨keepE lv e, o⟩ → K ⟨e, o⟩) → execR c.G ms s K) : MWp c (.reg draw lv ms) s Q := by
  intro lv' code hc C a w hr
  obtain ⟨id, ops, rfl, h1, h2⟩ := comp_reg hc
  have hx := h (fun s' => Q .normal ⟨keepE lv s'.e, s'.o⟩) (fun e o h => h)
  cases draw with
  | true =>
    obtain ⟨h3, h4⟩ := h2 rfl
    refine wp_region_draw_E (C := C) h3 h4 (fun j o d hj => compOps_dst _ _ h1 o (List.mem_of_getElem? (by rw [Array.getElem?_toList]; exact hj)) d) hr.relE (lex_of_exec _ _ s _ h1 hx) ?_
    rintro E a' w' hE ⟨e', hK, rfl⟩
    exact ⟨_, C, hK, Rel.weak (s := ⟨e', s.o⟩) ⟨hE.tmps, hE.defers, hE.env, hE.wd, hE.fix⟩ (look_keepE lv e')⟩
  | false =>
    refine wp_region_list (wpList_of_exec (K := fun s' => Q .normal ⟨keepE lv s'.e, s'.o⟩) ?_ _ _ s C a w h1 hr hx)
    intro s' C' a' w' hr' hK
    exact ⟨_, C', hK, hr'.weak (look_keepE lv s'.e)⟩

theorem mwp_seq {x y : MC} (h : MWp c x s (thenQ (fun s' => MWp c y s' Q) Q)) : MWp c (.seq x y) s Q := by
  intro lv code hc C a w hr
  obtain ⟨a', b', rfl, h1, h2⟩ := comp_seq hc
  refine wp_seq (Code.wp_mono ?_ (h lv a' h1 C a w hr))
  rintro e a1 w1 ⟨s1, C1, hq, hr1⟩
  cases e with
  | normal => exact hq lv b' h2 C1 a1 w1 hr1
  | _ => exact ⟨s1, C1, hq, hr1⟩

theorem mwp_cond {p : Opd} {x y : MC} {b : Bool} (hb : evS s.e p = .d (.bool b)) (h1 : b = true → MWp c x s Q) (h2 : b = false → MWp c y s Q) : MWp c (.cond p x y) s Q := by
  intro lv code hc C a w hr
  obtain ⟨q, a', b', rfl, h3, h4, h5⟩ := comp_cond hc
  have hv := ev_rel hr h3
  rw [hb] at hv
  exact wp_cond_split (relV_bool.1 hv) (fun h => h1 h lv a' h4 C a w hr) (fun h => h2 h lv b' h5 C a w hr)

theorem mwp_block {id : Nat} {x : MC} (h : MWp c x s (inB id Q)) : MWp c (.block id x) s Q := by
  intro lv code hc C a w hr
  obtain ⟨b', rfl, h1⟩ := comp_block hc
  refine wp_block (Code.wp_mono ?_ (h lv b' h1 C a w hr))
  rintro e a1 w1 ⟨s1, C1, hq, hr1⟩
  cases e with
  | exit i =>
    simp only [inB] at hq
    simp only [Exit.inBlock]
    split
    · rename_i hi; rw [if_pos hi] at hq; exact ⟨s1, C1, hq, hr1⟩
    · rename_i hi; rw [if_neg hi] at hq; exact ⟨s1, C1, hq, hr1⟩
  | _ => exact ⟨s1, C1, hq, hr1⟩

theorem mwp_exit {id : Nat} (h : Q (.exit id) s) : MWp c (.exit id) s Q := by
  intro lv code hc C a w hr
  have := comp_exit hc
  subst this
  exact wp_exit ⟨s, C, h, hr⟩

theorem mwp_ret (h : Q .ret s) : MWp c .ret s Q := by
  intro lv code hc C a w hr
  have := comp_ret hc
  subst this
  exact wp_ret ⟨s, C, h, hr⟩

/-- no reference beyond the first n objects. -/
def bnd0 (n : Nat) : SV → Bool
  | .own r => decide (r < n)
  | .ptr r _ _ => decide (r < n)
  | .el r _ _ _ _ => decide (r < n)
  | .vw r => decide (r < n)
  | .win r _ _ => decide (r < n)
  | .tup _ => false
  | _ => true

/-- no tag beyond the first n objects. -/
def tagsB (n : Nat) : List Ob → Bool
  | [] => true
  | .tag r _ :: o => decide (r < n) && tagsB n o
  | _ :: o => tagsB n o
theorem tagsB_get {n : Nat} : ∀ {o : List Ob} {q r : Nat} {v : Value}, tagsB n o = true → o[q]? = some (.tag r v) → r < n
  | [], q, r, v, _, h => by simp at h
  | ob :: o, 0, r, v, hn, h => by
    simp only [List.getElem?_cons_zero, Option.some.injEq] at h
    subst h
    simp only [tagsB, Bool.and_eq_true, decide_eq_true_eq] at hn
    exact hn.1
  | ob :: o, q + 1, r, v, hn, h => by
    refine tagsB_get (o := o) (q := q) (v := v) ?_ (by simpa using h)
    cases ob <;> simp only [tagsB, Bool.and_eq_true] at hn <;> first | exact hn | exact hn.2

/-- s knows more than s': the objects of s' are the first ones of s. -/
def Weak0 (s s' : St) : Prop := (∃ x, s.o = s'.o ++ x) ∧ (∀ t, look s'.e t = .any ∨ (look s'.e t = look s.e t ∧ bnd0 s'.o.length (look s'.e t) = true)) ∧ tagsB s'.o.length s'.o = true

theorem Rel.weaken0 {s' : St} {C : List OC} {a : Act} {w : World} (h : Rel c s C a w) (hk : Weak0 s s') : ∃ C', Rel c s' C' a w := by
  obtain ⟨⟨x, hx⟩, he, htb⟩ := hk
  have hlen : s'.o.length ≤ C.length := by rw [← h.wd.len, hx]; simp
  have hsub : ∀ b ∈ Fps (C.take s'.o.length), b ∈ Fps C := by
    intro b hb
    obtain ⟨r, oc, h1, h2⟩ := mem_Fps.1 hb
    rw [List.getElem?_take] at h1
    split at h1
    · exact mem_Fps.2 ⟨r, oc, h1, h2⟩
    · cases h1
  have hmem : ∀ b ∈ Fps (C.take s'.o.length), (b ∈ Fps C ∨ w.heap.size ≤ b) ∧ b < w.heap.size := fun b hb => ⟨.inl (hsub b hb), h.wd.lt b (hsub b hb)⟩
  have hnd := nodup_Fps.1 h.wd.nodup
  refine ⟨C.take s'.o.length, h.tmps, h.defers, fun t => ?_, h.wd.upd (X := fun _ => False) (Went.of_ext (Ext.refl w) _) (fun b hb => hb.elim) ?_ ?_ ?_ hmem ?_ ?_, h.fix⟩
  · rcases he t with h1 | ⟨h1, h2⟩
    · simp only [h1]; trivial
    · have hv := h.env t
      rw [← h1] at hv
      generalize look s'.e t = q at *
      have key : ∀ (r : Nat), r < s'.o.length → (C.take s'.o.length)[r]? = C[r]? := fun r hr => by rw [List.getElem?_take, if_pos hr]
      refine RelV_of0 (RelV0.upd (C := C) (X := fun _ => False) (Went.of_ext (Ext.refl w) _) (fun b hb => hb.elim) hmem ?_ ?_ ?_)
      · intro r oc hr hC
        refine ⟨oc, ?_, rfl, rfl⟩
        rw [key r ?_]; exact hC
        cases q <;> simp only [ref0, beq_iff_eq, Bool.false_eq_true] at hr <;> simp only [bnd0, decide_eq_true_eq] at h2 <;> omega
      · intro r oc oc' hq hC hb hC'
        have hr : r < s'.o.length := by rw [hq] at h2; simpa [bnd0] using h2
        rw [key r hr, hC] at hC'
        injection hC' with hC'
        subst hC'
        exact ⟨hb, fun h => h⟩
      · cases q <;> first | exact hv | cases h2
  · rw [List.length_take, Nat.min_eq_left hlen]
  · intro r ob oc h1 h2
    have hr := lt_of_get h1
    rw [List.getElem?_take, if_pos hr] at h2
    exact .inl ⟨by rw [hx, List.getElem?_append_left hr]; exact h1, h2, fun _ _ h => h⟩
  · refine nodup_Fps.2 ⟨fun r oc h1 => ?_, fun r q oc od hne h1 h2 => ?_⟩
    · rw [List.getElem?_take] at h1
      split at h1
      · exact hnd.1 r oc h1
      · cases h1
    · rw [List.getElem?_take] at h1 h2
      split at h1 <;> split at h2
      · exact hnd.2 r q oc od hne h1 h2
      all_goals first | cases h1 | cases h2
  · intro q r v hq
    exact .inl (by rw [hx, List.getElem?_append_left (lt_of_get hq)]; exact hq)
  · intro q r v od hq h
    exact ⟨od, by rw [List.getElem?_take, if_pos (tagsB_get htb hq)]; exact h, rfl⟩

/-- whatever s tells of, s' tells of too. -/
def Weak (s s' : St) : Prop := ∀ (c : Ctx) (C : List OC) (a : Act) (w : World), Rel c s C a w → ∃ C', Rel c s' C' a w
theorem Weak0.weak {s s' : St} (h : Weak0 s s') : Weak s s' := fun _ _ _ _ hr => hr.weaken0 h
theorem Weak.refl (s : St) : Weak s s := fun _ C _ _ hr => ⟨C, hr⟩
theorem Weak.trans {s t u : St} (h : Weak s t) (k : Weak t u) : Weak s u := fun c C a w hr => by
  obtain ⟨C', hr'⟩ := h c C a w hr
  exact k c C' a w hr'
theorem Rel.weaken {s' : St} {C : List OC} {a : Act} {w : World} (h : Rel c s C a w) (hk : Weak s s') : ∃ C', Rel c s' C' a w := hk c C a w h

/-- so it is with one of many states. -/
def WeakX {α : Type} (s : St) (S : α → St) : Prop := ∀ (c : Ctx) (C : List OC) (a : Act) (w : World), Rel c s C a w → ∃ x C', Rel c (S x) C' a w
theorem Weak.x {s s' : St} (h : Weak s s') : WeakX s (fun _ : Unit => s') := fun c C a w hr => ⟨(), h c C a w hr⟩
theorem mwp_weakX {m : MC} {α : Type} {S : α → St} (hk : WeakX s S) (h : ∀ x, MWp c m (S x) Q) : MWp c m s Q := by
  intro lv code hc C a w hr
  obtain ⟨x, C', hr'⟩ := hk c C a w hr
  exact h x lv code hc C' a w hr'

theorem mwp_weak {m : MC} {s' : St} (hk : Weak s s') (h : MWp c m s' Q) : MWp c m s Q := by
  intro lv code hc C a w hr
  obtain ⟨C', hr'⟩ := hr.weaken hk
  exact h lv code hc C' a w hr'

/-- a nil slice becomes a slice of the call's own. -/
theorem mwp_nil {m : MC} (t es : Nat) (ht : look s.e t = .nil) (h : MWp c m ⟨(t, .own s.o.length) :: s.e, s.o ++ [.val (.sl true es .nil)]⟩ Q) : MWp c m s Q := by
  intro lv code hc C a w hr
  have hv := hr.env t
  rw [ht] at hv
  have hv : a.tmps.getD t Go.undef = .slice none 0 0 := hv
  have hn := newL hr.wd (w' := w) (obs := [.val (.sl true es .nil)]) (ocs := [{ v := .slice none 0 0, blk := 0, fp := [] }]) (Ext.refl w) rfl (by simp [Fps]) (fun b hb => by simp [Fps] at hb) (fun j ob oc h1 h2 => by
    cases j with
    | zero =>
      simp only [List.getElem?_cons_zero, Option.some.injEq] at h1 h2
      subst h1 h2
      exact ⟨[.slice none 0 0], ⟨trivial, none, 0, [], [], rfl, Nat.le_refl _, ⟨rfl, rfl⟩, by simp⟩, rfl⟩
    | succ j => simp at h1) (fun j r v hj => by cases j <;> simp at hj)
  refine h lv code hc _ a w ⟨hr.tmps, hr.defers, fun u => ?_, hn.1, hr.fix⟩
  simp only [look]
  by_cases e : t = u
  · subst e
    simp only [if_true]
    exact ⟨{ v := .slice none 0 0, blk := 0, fp := [] }, by rw [List.getElem?_append_right (by rw [hr.wd.len]; exact Nat.le_refl _), hr.wd.len, Nat.sub_self]; rfl, hv⟩
  · simp only [e, if_false]; exact hn.2 _ _ hr.env u

/-- a region by its plan: 'J' tells what every order leaves. -/
theorem mwp_any {un lv : List Nat} {p : MP} {J : St → Prop} (hx : execA c.G un p [] s fun s' => J ⟨keepE lv s'.e, s'.o⟩) (hJ : ∀ s', J s' → ∃ s1, Weak s' s1 ∧ Q .normal s1) : MWp c (.any un lv p) s Q := by
  intro lv' code hc C a w hr
  obtain ⟨id, ops, ts, rfl, hp⟩ := comp_any hc
  refine wp_region_plan hp hr hx ?_
  intro s' C' a' w' hr' hK
  obtain ⟨s1, h1, h2⟩ := hJ _ hK
  obtain ⟨C1, h3⟩ := (hr'.weak (e' := keepE lv s'.e) (look_keepE lv s'.e)).weaken h1
  exact ⟨s1, C1, h2, h3⟩

theorem mwp_loop {α : Type} {b : MC} (S : α → St) (inv : α → Prop) (μ : α → Nat) (x0 : α) (h0 : Weak s (S x0)) (hi : inv x0)
    (body : ∀ x, inv x → MWp c b (S x) (thenQ (fun s' => ∃ y, Weak s' (S y) ∧ inv y ∧ μ y < μ x) Q)) : MWp c (.loop b) s Q := by
  intro lv code hc C a w hr
  obtain ⟨b', rfl, h1⟩ := comp_loop hc
  obtain ⟨C', hr'⟩ := hr.weaken h0
  refine wp_loop_ghost (fun n a w => ∃ x C, μ x = n ∧ inv x ∧ Rel c (S x) C a w) (μ x0) ⟨x0, C', rfl, hi, hr'⟩ ?_
  rintro n a w ⟨x, C, rfl, hx, hrx⟩
  refine Code.wp_mono ?_ (body x hx lv b' h1 C a w hrx)
  rintro e a1 w1 ⟨s1, C1, hq, hr1⟩
  cases e with
  | normal =>
    obtain ⟨y, h2, h3, h4⟩ := hq
    obtain ⟨C2, hr2⟩ := hr1.weaken h2
    exact ⟨μ y, h4, y, C2, rfl, h3, hr2⟩
  | _ => exact ⟨s1, C1, hq, hr1⟩
end
end Go.Pe

/- A contract out of the walk of a function's code. -/
namespace Go.Pe
open Go Go.RowKit

def D.isSt : D → Bool
  | .st _ => true
  | _ => false

/-- the results, with what they own. -/
def takeRes (e : Env) : List Ob → List ResultVar → (List D → Prop) → Prop
  | _, [], K => K []
  | o, .tmp t :: r, K => takeS o (look e t) fun x o1 _ => takeRes e o1 r fun xs => K (x :: xs)
  | o, .cell t _ :: r, K => match look e t with
    | .ptr q 0 [] => ∃ xs, o[q]? = some (.box (.st xs)) ∧ takeRes e (o.set q .dead) r fun ys => K (.st xs :: ys)
    | _ => False

/-- the results, with what they own, and the objects that are left. -/
def takeResO : Env → List Ob → List ResultVar → (List D → List Ob → Prop) → Prop
  | _, o, [], K => K [] o
  | e, o, .tmp t :: r, K => takeS o (look e t) fun x o1 _ => takeResO e o1 r fun xs o2 => K (x :: xs) o2
  | e, o, .cell t _ :: r, K => match look e t with
    | .ptr q 0 [] => ∃ xs, o[q]? = some (.box (.st xs)) ∧ takeResO e (o.set q .dead) r fun ys o2 => K (.st xs :: ys) o2
    | _ => False

/-- the types of the results that lie in memory are structs'. -/
def resOK (P : Program) (rs : List ResultVar) : Bool :=
  rs.all fun r => match r with
    | .tmp _ => true
    | .cell _ t => match P.underlying t with
      | some (.struct _) => true
      | _ => false

def resSizes (P : Program) (e : Env) (o : List Ob) : List ResultVar → Prop
  | [] => True
  | .tmp _ :: r => resSizes P e o r
  | .cell t ty :: r => (∀ q xs, look e t = .ptr q 0 [] → o[q]? = some (.box (.st xs)) → sizeOfT P ty = some xs.size) ∧ resSizes P e o r

def initE : Nat → List D → Env
  | _, [] => []
  | n, x :: xs => (n, .d x) :: initE (n + 1) xs

theorem look_initE : ∀ (ds : List D) (n t : Nat), look (initE n ds) t = if n ≤ t then (match ds[t - n]? with | some x => .d x | none => .any) else .any
  | [], n, t => by simp [initE, look]
  | x :: xs, n, t => by
    simp only [initE, look]
    by_cases h : n = t
    · subst h; simp
    · rw [if_neg h, look_initE xs (n + 1) t]
      by_cases h2 : n + 1 ≤ t
      · rw [if_pos h2, if_pos (by omega), show t - n = (t - (n + 1)) + 1 by omega, List.getElem?_cons_succ]
      · rw [if_neg h2, if_neg (by omega)]

theorem repVs_length {w : World} {M : Nat → Prop} : ∀ (ds : List D) (vs : List Value) (fp : List Nat), RepVs w M ds vs fp → vs.length = ds.length
  | [], vs, fp, h => by rw [h.1]; rfl
  | x :: xs, vs, fp, h => by
    obtain ⟨cs, us, f1, f2, rfl, _, _, h2⟩ := h
    simp [repVs_length xs us f2 h2]

theorem repVs_get {w : World} {M : Nat → Prop} : ∀ (ds : List D) (vs : List Value), RepVs w M ds vs [] → ∀ (i : Nat) (x : D) (v : Value), ds[i]? = some x → vs[i]? = some v → ∃ cs, x.rep w M cs [] ∧ v = pack x cs
  | [], vs, h, i, x, v, hx, _ => by simp at hx
  | y :: ys, vs, h, i, x, v, hx, hv => by
    obtain ⟨cs, us, f1, f2, rfl, hf, h1, h2⟩ := h
    have : f1 = [] ∧ f2 = [] := by simpa using hf.symm
    obtain ⟨rfl, rfl⟩ := this
    cases i with
    | zero =>
      simp only [List.getElem?_cons_zero, Option.some.injEq] at hx hv
      subst hx hv
      exact ⟨cs, h1, rfl⟩
    | succ i => exact repVs_get ys us h2 i x v (by simpa using hx) (by simpa using hv)

section
variable {c : Ctx} {s : St} {C : List OC} {a : Act} {w : World}

/-- the value of a result. -/
def resV (tmps : Array Value) : ResultVar → Sem Value
  | .tmp t => pure (tmps.getD t Go.undef)
  | .cell a t => do loadVar t (← asAddr (tmps.getD a Go.undef))

theorem takeRes_sound (hr : Rel c s C a w) : ∀ (rvs : List ResultVar) (o1 : List Ob) (C1 : List OC) (ks L : List Nat) (K : List D → Prop), Loose s.o C o1 C1 ks L → resOK c.P rvs = true → resSizes c.P s.e s.o rvs → takeRes s.e o1 rvs K →
    ∃ xs us fp L', K xs ∧ (rvs.mapM (resV a.tmps)).run c.P w = .ok us w ∧ RepVs w (Ms c C) xs us fp ∧ L' = L ++ fp ∧ L'.Nodup ∧ (∀ b ∈ L', b ∈ Fps C)
  | [], o1, C1, ks, L, K, hl, _, _, h => ⟨[], [], [], L, h, rfl, ⟨rfl, rfl⟩, by simp, hl.lnodup, hl.lsub⟩
  | .tmp t :: rvs, o1, C1, ks, L, K, hl, hok, hsz, h => by
    simp only [takeRes] at h
    obtain ⟨x, o2, C2, kr, cs, fp, hK, hv, hx, hl2⟩ := takeS_sound hr.wd hl (hr.env t) h
    simp only [resOK, List.all_cons, Bool.true_and] at hok
    obtain ⟨xs, us, fq, L', h1, h2, h3, h4, h5, h6⟩ := takeRes_sound hr rvs o2 C2 _ _ _ hl2 hok hsz hK
    refine ⟨x :: xs, a.tmps.getD t Go.undef :: us, fp ++ fq, L', h1, ?_, ⟨cs, us, fp, fq, by rw [hv], rfl, hx, h3⟩, by rw [h4, List.append_assoc], h5, h6⟩
    rw [List.mapM_cons, Sem.run_bind]
    simp only [resV, Sem.run_pure, Result.andThen_ok]
    rw [Sem.run_bind, h2]
    rfl
  | .cell t ty :: rvs, o1, C1, ks, L, K, hl, hok, hsz, h => by
    simp only [takeRes] at h
    split at h
    · rename_i q hq
      obtain ⟨xs, hbox, h⟩ := h
      have hv := hr.env t
      rw [hq] at hv
      obtain ⟨oc, hC, hv⟩ := hv
      obtain ⟨oc1, h3, _, _, h4⟩ := hl.same q oc hC
      rcases hl.obs q _ oc1 hbox h3 with ⟨h5, h6, h7⟩ | ⟨h5, _⟩
      case inr => cases h5
      have := h4 h7
      subst this
      obtain ⟨cs, fps, hrow, hrep, hfp⟩ := hr.wd.obs q _ oc1 h5 h6
      simp only [resOK, List.all_cons, Bool.and_eq_true] at hok
      have hsz1 := hsz.1 q xs hq h5
      simp only [sizeOfT, Option.map_eq_some_iff] at hsz1
      obtain ⟨i, hi, hin⟩ := hsz1
      have hst : ∃ fs, c.P.underlying ty = some (.struct fs) := by
        have h1 := hok.1
        split at h1
        · rename_i fs hu; exact ⟨fs, hu⟩
        · cases h1
      obtain ⟨fs, hu⟩ := hst
      have hcell : ∀ j u, cs[j]? = some u → w.cell? ((⟨oc1.blk, 0, none⟩ : Addr).add j) = some u := by
        have := Holds.of_row (M := fun _ => False) hrow (fun h => h)
        rcases this with h8 | h8
        · exact fun j u hu => by rw [h8] at hu; simp at hu
        · exact h8.2.2
      have hld := run_ld_agg (P := c.P) (w := w) (ad := ⟨oc1.blk, 0, none⟩) (ds := cs) hu hi (by rw [rep_length (.st xs) _ _ hrep, hin]; rfl) hcell
      simp only [Instr.loadAt, Instr.sureAddr] at hld
      have hd := hl.drop hbox h3
      have hd2 : Loose s.o C (o1.set q .dead) (C1.set q { oc1 with fp := [] }) (ks ++ [q]) (L ++ fps) := by
        rw [hfp] at hd
        refine ⟨hd.len, hd.clen, hd.obs, hd.same, fun b hb => ⟨(hd.fps b hb).1, fun hb' => (hd.fps b hb).2 ?_⟩, hd.nodup, ?_, fun b hb => hd.lsub b ?_⟩
        · simp only [List.mem_append, List.mem_cons] at hb' ⊢
          exact hb'.imp id .inr
        · have := hd.lnodup
          rw [List.nodup_append] at this ⊢
          exact ⟨this.1, (List.nodup_cons.1 this.2.1).2, fun a ha b hb => this.2.2 a ha b (List.mem_cons_of_mem _ hb)⟩
        · simp only [List.mem_append, List.mem_cons] at hb ⊢
          exact hb.imp id .inr
      obtain ⟨ys, us, fq, L', g1, g2, g3, g4, g5, g6⟩ := takeRes_sound hr rvs _ _ _ _ _ hd2 hok.2 hsz.2 h
      refine ⟨.st xs :: ys, .agg cs.toArray :: us, fps ++ fq, L', g1, ?_, ⟨cs, us, fps, fq, rfl, rfl, hrep, g3⟩, by rw [g4, List.append_assoc], g5, g6⟩
      rw [List.mapM_cons, Sem.run_bind]
      simp only [resV, hv, asAddr]
      rw [Sem.run_bind, Sem.run_pure, Result.andThen_ok]
      simp only [Sem.run_bind, Sem.run_pure, Result.andThen_ok] at hld
      rw [hld, Result.andThen_ok, Sem.run_bind, g2]
      rfl
    · exact h.elim

theorem takeResO_sound (hr : Rel c s C a w) : ∀ (rvs : List ResultVar) (o1 : List Ob) (C1 : List OC) (ks L : List Nat) (K : List D → List Ob → Prop), Loose s.o C o1 C1 ks L → resOK c.P rvs = true → resSizes c.P s.e s.o rvs → takeResO s.e o1 rvs K →
    ∃ xs us fp L' o2 C2 ks', K xs o2 ∧ Loose s.o C o2 C2 ks' L' ∧ (rvs.mapM (resV a.tmps)).run c.P w = .ok us w ∧ RepVs w (Ms c C) xs us fp ∧ L' = L ++ fp ∧ L'.Nodup ∧ (∀ b ∈ L', b ∈ Fps C)
  | [], o1, C1, ks, L, K, hl, _, _, h => ⟨[], [], [], L, o1, C1, ks, h, hl, rfl, ⟨rfl, rfl⟩, by simp, hl.lnodup, hl.lsub⟩
  | .tmp t :: rvs, o1, C1, ks, L, K, hl, hok, hsz, h => by
    simp only [takeResO] at h
    obtain ⟨x, o2, C2, kr, cs, fp, hK, hv, hx, hl2⟩ := takeS_sound hr.wd hl (hr.env t) h
    simp only [resOK, List.all_cons, Bool.true_and] at hok
    obtain ⟨xs, us, fq, L', oo, CC, kk, h1, hL, h2, h3, h4, h5, h6⟩ := takeResO_sound hr rvs o2 C2 _ _ _ hl2 hok hsz hK
    refine ⟨x :: xs, a.tmps.getD t Go.undef :: us, fp ++ fq, L', oo, CC, kk, h1, hL, ?_, ⟨cs, us, fp, fq, by rw [hv], rfl, hx, h3⟩, by rw [h4, List.append_assoc], h5, h6⟩
    rw [List.mapM_cons, Sem.run_bind]
    simp only [resV, Sem.run_pure, Result.andThen_ok]
    rw [Sem.run_bind, h2]
    rfl
  | .cell t ty :: rvs, o1, C1, ks, L, K, hl, hok, hsz, h => by
    simp only [takeResO] at h
    split at h
    · rename_i q hq
      obtain ⟨xs, hbox, h⟩ := h
      have hv := hr.env t
      rw [hq] at hv
      obtain ⟨oc, hC, hv⟩ := hv
      obtain ⟨oc1, h3, _, _, h4⟩ := hl.same q oc hC
      rcases hl.obs q _ oc1 hbox h3 with ⟨h5, h6, h7⟩ | ⟨h5, _⟩
      case inr => cases h5
      have := h4 h7
      subst this
      obtain ⟨cs, fps, hrow, hrep, hfp⟩ := hr.wd.obs q _ oc1 h5 h6
      simp only [resOK, List.all_cons, Bool.and_eq_true] at hok
      have hsz1 := hsz.1 q xs hq h5
      simp only [sizeOfT, Option.map_eq_some_iff] at hsz1
      obtain ⟨i, hi, hin⟩ := hsz1
      have hst : ∃ fs, c.P.underlying ty = some (.struct fs) := by
        have h1 := hok.1
        split at h1
        · rename_i fs hu; exact ⟨fs, hu⟩
        · cases h1
      obtain ⟨fs, hu⟩ := hst
      have hcell : ∀ j u, cs[j]? = some u → w.cell? ((⟨oc1.blk, 0, none⟩ : Addr).add j) = some u := by
        have := Holds.of_row (M := fun _ => False) hrow (fun h => h)
        rcases this with h8 | h8
        · exact fun j u hu => by rw [h8] at hu; simp at hu
        · exact h8.2.2
      have hld := run_ld_agg (P := c.P) (w := w) (ad := ⟨oc1.blk, 0, none⟩) (ds := cs) hu hi (by rw [rep_length (.st xs) _ _ hrep, hin]; rfl) hcell
      simp only [Instr.loadAt, Instr.sureAddr] at hld
      have hd := hl.drop hbox h3
      have hd2 : Loose s.o C (o1.set q .dead) (C1.set q { oc1 with fp := [] }) (ks ++ [q]) (L ++ fps) := by
        rw [hfp] at hd
        refine ⟨hd.len, hd.clen, hd.obs, hd.same, fun b hb => ⟨(hd.fps b hb).1, fun hb' => (hd.fps b hb).2 ?_⟩, hd.nodup, ?_, fun b hb => hd.lsub b ?_⟩
        · simp only [List.mem_append, List.mem_cons] at hb' ⊢
          exact hb'.imp id .inr
        · have := hd.lnodup
          rw [List.nodup_append] at this ⊢
          exact ⟨this.1, (List.nodup_cons.1 this.2.1).2, fun a ha b hb => this.2.2 a ha b (List.mem_cons_of_mem _ hb)⟩
        · simp only [List.mem_append, List.mem_cons] at hb ⊢
          exact hb.imp id .inr
      obtain ⟨ys, us, fq, L', oo, CC, kk, g1, gL, g2, g3, g4, g5, g6⟩ := takeResO_sound hr rvs _ _ _ _ _ hd2 hok.2 hsz.2 h
      refine ⟨.st xs :: ys, .agg cs.toArray :: us, fps ++ fq, L', oo, CC, kk, g1, gL, ?_, ⟨cs, us, fps, fq, rfl, rfl, hrep, g3⟩, by rw [g4, List.append_assoc], g5, g6⟩
      rw [List.mapM_cons, Sem.run_bind]
      simp only [resV, hv, asAddr]
      rw [Sem.run_bind, Sem.run_pure, Result.andThen_ok]
      simp only [Sem.run_bind, Sem.run_pure, Result.andThen_ok] at hld
      rw [hld, Result.andThen_ok, Sem.run_bind, g2]
      rfl
    · exact h.elim

theorem retV_run {P : Program} {fn : Func} {tmps : Array Value} {us : List Value} (h : (fn.results.toList.mapM (resV tmps)).run P w = .ok us w) : (results fn tmps).run P w = .ok (retV us) w := by
  have he : results fn tmps = (do let vs ← fn.results.mapM (resV tmps); pure (if h : vs.size = 1 then vs[0] else .tuple vs)) := by
    unfold results resV
    congr 1
  rw [he, Sem.run_bind, Array.mapM_eq_mapM_toList, Sem.run_map, h]
  simp only [Result.andThen_ok, Sem.run_pure]
  congr 1
  match us with
  | [] => rfl
  | [u] => rfl
  | u :: v :: us => simp [retV]

theorem repVs_frame {w' : World} {M M' : Nat → Prop} (hs : w.heap.size ≤ w'.heap.size) (hM : ∀ b, b < w.heap.size → M' b → M b) (hk : ∀ b, b < w.heap.size → w'.heap[b]? = w.heap[b]?) : ∀ (rs : List D) (us : List Value) (fp : List Nat), RepVs w M rs us fp → RepVs w' M' rs us fp
  | [], us, fp, h => h
  | x :: rs, us, fp, h => by
    obtain ⟨cs, us', f1, f2, rfl, rfl, h1, h2⟩ := h
    exact ⟨cs, us', f1, f2, rfl, rfl, rep_frame hs hM _ _ _ (fun b hb _ => hk b hb) h1, repVs_frame hs hM hk rs us' f2 h2⟩
end

/-- the end of a walk: a normal end or a return, and the results are as R asks. -/
def RetQ (P : Program) (rvs : List ResultVar) (R : List D → Prop) : Exit → St → Prop
  | .normal, s => resSizes P s.e s.o rvs ∧ takeRes s.e s.o rvs R
  | .ret, s => resSizes P s.e s.o rvs ∧ takeRes s.e s.o rvs R
  | _, _ => False

theorem Fn_of {lo : Nat} {P : PG} {f : FuncId} {fn : Func} {code : Code} {lv : List (Nat × List Nat)} {m : MC} {ds : List D} {R : List D → Prop} (hf : P.P.funcs[f]? = some fn) (hb : fn.body = some code)
    (hc : comp P.P (lo, fn.ntmps) lv code = some m) (hk : resOK P.P fn.results.toList = true) (hn : ds.length ≤ fn.ntmps)
    (h : ∀ c : Ctx, c.G = P → c.nn = (lo, fn.ntmps) → MWp c m ⟨initE 0 ds, []⟩ (RetQ P.P fn.results.toList R)) : Fn P f ds R := by
  intro M vs w hM hgl hvs
  have hlen := repVs_length _ _ _ hvs
  refine calls_of_wp hf hb ?_
  let c : Ctx := { G := P, n := fn.ntmps, w0 := w, M0 := M, g0 := [], lo := lo, fx := fun t => (vs.toArray ++ Array.replicate (fn.ntmps - vs.toArray.size) Go.undef).getD t Go.undef }
  have hMs : ∀ b, Ms c [] b ↔ M b := by intro b; simp [Ms, Fps, c]
  have hrel : Rel c ⟨initE 0 ds, []⟩ [] { tmps := vs.toArray ++ Array.replicate (fn.ntmps - vs.toArray.size) Go.undef, defers := [] } w := by
    refine ⟨?_, rfl, fun t => ?_, ?_, fun t _ => rfl⟩
    · simp only [Array.size_append, List.size_toArray, Array.size_replicate, c, hlen]; omega
    · simp only [look_initE, Nat.zero_le, if_true, Nat.sub_zero]
      cases hd : ds[t]? with
      | none => trivial
      | some x =>
        have ht := lt_of_get hd
        have hv : vs[t]? = some vs[t] := List.getElem?_eq_getElem (by omega)
        obtain ⟨cs, h1, h2⟩ := repVs_get _ _ hvs t x _ hd hv
        have e : (vs.toArray ++ Array.replicate (fn.ntmps - vs.toArray.size) Go.undef).getD t Go.undef = vs[t] := by
          rw [Array.getD_eq_getD_getElem?, Array.getElem?_append_left (by simp; omega)]
          simp [hv]
        have hM2 : Ms c [] = M := by funext b; exact propext (hMs b)
        refine ⟨cs, by rw [hM2]; exact h1, ?_⟩
        exact e.trans h2
    · exact ⟨rfl, fun r ob oc h => by simp at h, fun q r v h => by simp at h, by simp [Fps], fun b hb => by simp [Fps] at hb, fun b hb => by simp [Fps] at hb, fun b hb => by simp [Fps] at hb, rfl, rfl, rfl, Nat.le_refl _, fun _ _ _ => rfl, fun b hb => hM b hb, by
        have hM2 : Ms c [] = M := by funext b; exact propext (hMs b)
        rw [hM2]; exact hgl⟩
  refine Code.wp_mono ?_ (h c rfl rfl lv code hc [] _ w hrel)
  rintro e a w' ⟨s, C, hq, hr⟩
  have fin : resSizes P.P s.e s.o fn.results.toList ∧ takeRes s.e s.o fn.results.toList R → a.defers = [] ∧ ∃ v, (results fn a.tmps).run P.P w' = .ok v w' ∧
      ∃ rs us fp, Ending.returned v = .returned (retV us) ∧ R rs ∧ RepVs w' (fun b => M b ∨ b ∈ fp) rs us fp ∧ fp.Nodup ∧ (∀ b ∈ fp, w.heap.size ≤ b) ∧ Ext w w' := by
    rintro ⟨hs, ht⟩
    obtain ⟨xs, us, fp, L', h1, h2, h3, hL, h5, h6⟩ := takeRes_sound hr fn.results.toList s.o C [] [] R (Loose.refl hr.wd) hk hs ht
    rw [List.nil_append] at hL
    rw [hL] at h5 h6
    refine ⟨hr.defers, retV us, retV_run h2, xs, us, fp, rfl, h1, ?_, h5, fun b hb => ?_, ?_⟩
    · refine repVs_frame (Nat.le_refl _) (fun b hb hm => ?_) (fun _ _ => rfl) _ _ _ h3
      rcases hm with hm | hm
      · exact .inl hm
      · exact .inr (h6 b hm)
    · rcases hr.wd.mine b (h6 b hb) with h | h
      · exact h
      · cases h
    · exact ⟨hr.wd.os, hr.wd.tape, hr.wd.output, hr.wd.size, fun b hb => hr.wd.kept b hb (by simp [c])⟩
  cases e with
  | normal => exact fin hq
  | ret => exact fin hq
  | _ => exact hq.elim
/-- the end of a walk of a function that changes what its first argument leads to. -/
def RetQM (P : Program) (rvs : List ResultVar) (bx : Bool) (R : D → List D → Prop) : Exit → St → Prop
  | .normal, s => resSizes P s.e s.o rvs ∧ look s.e 0 = firstS bx 0 ∧ takeResO s.e s.o rvs fun rs o2 => ∃ x', o2[0]? = some (mkOb bx x') ∧ R x' rs
  | .ret, s => resSizes P s.e s.o rvs ∧ look s.e 0 = firstS bx 0 ∧ takeResO s.e s.o rvs fun rs o2 => ∃ x', o2[0]? = some (mkOb bx x') ∧ R x' rs
  | _, _ => False

theorem look_init1 (q : SV) (ds : List D) (t : Nat) : look ((0, q) :: initE 1 ds) t = if t = 0 then q else (match ds[t - 1]? with | some x => .d x | none => .any) := by
  simp only [look]
  by_cases h : 0 = t
  · subst h; simp
  · rw [if_neg h, if_neg (fun e => h e.symm), look_initE, if_pos (by omega)]

theorem FnM_of {lo : Nat} {P : PG} {f : FuncId} {fn : Func} {code : Code} {lv : List (Nat × List Nat)} {m : MC} {bx : Bool} {x : D} {ds : List D} {R : D → List D → Prop} (hf : P.P.funcs[f]? = some fn) (hb : fn.body = some code)
    (hc : comp P.P (lo, fn.ntmps) lv code = some m) (hlo : 0 < lo) (hk : resOK P.P fn.results.toList = true) (hn : ds.length + 1 ≤ fn.ntmps)
    (h : ∀ c : Ctx, c.G = P → c.nn = (lo, fn.ntmps) → MWp c m ⟨(0, firstS bx 0) :: initE 1 ds, [mkOb bx x]⟩ (RetQM P.P fn.results.toList bx R)) : FnM P f bx x ds R := by
  intro M oc vs w hM hob hnd hlt hgl hvs
  have hlen := repVs_length _ _ _ hvs
  refine calls_of_wp hf hb ?_
  let T : Array Value := (mkV bx oc :: vs).toArray ++ Array.replicate (fn.ntmps - (mkV bx oc :: vs).toArray.size) Go.undef
  let c : Ctx := { G := P, n := fn.ntmps, w0 := w, M0 := M, g0 := oc.fp, lo := lo, fx := fun t => T.getD t Go.undef }
  have hF : Fps [oc] = oc.fp := by simp [Fps]
  have hMs : (fun b => M b ∨ b ∈ oc.fp) = Ms c [oc] := by funext b; simp [Ms, hF, c]
  have hT0 : T.getD 0 Go.undef = mkV bx oc := by
    show ((mkV bx oc :: vs).toArray ++ Array.replicate (fn.ntmps - (mkV bx oc :: vs).toArray.size) Go.undef).getD 0 Go.undef = mkV bx oc
    rw [Array.getD_eq_getD_getElem?, Array.getElem?_append_left (by simp)]
    simp
  have hrel : Rel c ⟨(0, firstS bx 0) :: initE 1 ds, [mkOb bx x]⟩ [oc] { tmps := T, defers := [] } w := by
    refine ⟨?_, rfl, fun t => ?_, ?_, fun t _ => rfl⟩
    · simp only [T, Array.size_append, List.size_toArray, Array.size_replicate, c, hlen, List.length_cons]; omega
    · rw [look_init1]
      by_cases ht : t = 0
      · subst ht
        rw [if_pos rfl]
        show RelV w (Ms c [oc]) [oc] (firstS bx 0) (T.getD 0 Go.undef)
        rw [hT0]
        cases bx with
        | false => exact ⟨oc, rfl, rfl⟩
        | true => exact ⟨oc, rfl, rfl⟩
      · rw [if_neg ht]
        cases hd : ds[t - 1]? with
        | none => trivial
        | some y =>
          have ht1 := lt_of_get hd
          have hv : vs[t - 1]? = some vs[t - 1] := List.getElem?_eq_getElem (by omega)
          obtain ⟨cs, h1, h2⟩ := repVs_get _ _ hvs (t - 1) y _ hd hv
          have e : T.getD t Go.undef = vs[t - 1] := by
            show ((mkV bx oc :: vs).toArray ++ Array.replicate (fn.ntmps - (mkV bx oc :: vs).toArray.size) Go.undef).getD t Go.undef = vs[t - 1]
            rw [Array.getD_eq_getD_getElem?, Array.getElem?_append_left (by simp; omega)]
            obtain ⟨u, rfl⟩ : ∃ u, t = u + 1 := ⟨t - 1, by omega⟩
            rw [List.getElem?_toArray, List.getElem?_cons_succ]
            simp only [Nat.add_sub_cancel] at hv ⊢
            rw [hv]; rfl
          refine ⟨cs, by rw [← hMs]; exact h1, ?_⟩
          exact e.trans h2
    · refine ⟨rfl, fun r ob od hr ho => ?_, fun q r v hq => ?_, by rw [hF]; exact hnd, fun b hb => ?_, fun b hb => ?_, fun b hb => ?_, rfl, rfl, rfl, Nat.le_refl _, fun _ _ _ => rfl, fun b hb => hM b hb, by rw [← hMs]; exact hgl⟩
      · cases r with
        | zero =>
          simp only [List.getElem?_cons_zero, Option.some.injEq] at hr ho
          subst hr ho
          rw [← hMs]; exact hob
        | succ r => simp at hr
      · cases q with
        | zero => cases bx <;> simp [mkOb] at hq
        | succ q => simp at hq
      · rw [hF] at hb; exact (hlt b hb).1
      · rw [hF] at hb; exact (hlt b hb).2
      · rw [hF] at hb; exact .inr hb
  refine Code.wp_mono ?_ (h c rfl rfl lv code hc [oc] _ w hrel)
  rintro e a w' ⟨s, C, hq, hr⟩
  have fin : (resSizes P.P s.e s.o fn.results.toList ∧ look s.e 0 = firstS bx 0 ∧ takeResO s.e s.o fn.results.toList fun rs o2 => ∃ x', o2[0]? = some (mkOb bx x') ∧ R x' rs) → a.defers = [] ∧ ∃ v, (results fn a.tmps).run P.P w' = .ok v w' ∧
      ∃ x' rs us fo fp, Ending.returned v = .returned (retV us) ∧ R x' rs ∧ ObRel w' (fun b => M b ∨ b ∈ fo ++ fp) (mkOb bx x') { oc with fp := fo } ∧ RepVs w' (fun b => M b ∨ b ∈ fo ++ fp) rs us fp ∧
      (fo ++ fp).Nodup ∧ (∀ b ∈ fo ++ fp, (b ∈ oc.fp ∨ w.heap.size ≤ b) ∧ b < w'.heap.size) ∧ Went w w' (fun b => b ∈ oc.fp) := by
    rintro ⟨hs, h0, ht⟩
    obtain ⟨xs, us, fp, L', o2, C2, ks', ⟨x', hx', hR⟩, hL, h2, h3, hLe, h5, h6⟩ := takeResO_sound hr fn.results.toList s.o C [] [] _ (Loose.refl hr.wd) hk hs ht
    rw [List.nil_append] at hLe
    subst hLe
    have hx'l := lt_of_get hx'
    obtain ⟨oc2, hC2⟩ : ∃ oc2, C2[0]? = some oc2 := ⟨C2[0]'(by rw [← hL.len]; exact hx'l), List.getElem?_eq_getElem _⟩
    have hz : (s.o[0]? = some (mkOb bx x') ∧ C[0]? = some oc2 ∧ 0 ∉ ks') := by
      rcases hL.obs 0 _ oc2 hx' hC2 with h7 | ⟨h7, _⟩
      · exact h7
      · cases bx <;> cases h7
    obtain ⟨hz1, hz2, _⟩ := hz
    have hobj := hr.wd.obs 0 _ oc2 hz1 hz2
    have hfo : ∀ b ∈ oc2.fp, b ∈ Fps C2 := fun b hb => mem_Fps.2 ⟨0, oc2, hC2, hb⟩
    have hsame : mkV bx oc2 = mkV bx oc := by
      have hv := hr.env 0
      rw [h0] at hv
      have hx := hr.fix 0 hlo
      have e1 : mkV bx oc2 = a.tmps.getD 0 Go.undef := by
        cases bx with
        | false =>
          obtain ⟨o3, k1, k2⟩ := hv
          rw [hz2] at k1; injection k1 with k1; subst k1; exact k2.symm
        | true =>
          obtain ⟨o3, k1, k2⟩ := hv
          rw [hz2] at k1; injection k1 with k1; subst k1; exact k2.symm
      rw [e1, hx]; exact hT0
    have hobj' : ObRel w' (Ms c C) (mkOb bx x') { oc with fp := oc2.fp } := by
      cases bx with
      | false =>
        obtain ⟨cs, k1, k2⟩ := hobj
        exact ⟨cs, k1, (show oc2.v = oc.v from hsame).symm.trans k2⟩
      | true =>
        obtain ⟨cs, fps, k1, k2, k3⟩ := hobj
        have hblk : oc2.blk = oc.blk := by
          have : Value.pointer (some ⟨oc2.blk, 0, none⟩) = Value.pointer (some ⟨oc.blk, 0, none⟩) := hsame
          injection this with this; injection this with this; injection this with this
        exact ⟨cs, fps, by rw [← hblk]; exact k1, k2, by rw [k3, hblk]⟩
    have hsubM : ∀ b, (M b ∨ b ∈ oc2.fp ++ L') → Ms c C b := by
      rintro b (hb | hb)
      · exact .inl hb
      · rcases List.mem_append.1 hb with hb | hb
        · exact .inr (hL.fps b (hfo b hb)).1
        · exact .inr (h6 b hb)
    refine ⟨hr.defers, retV us, retV_run h2, x', xs, us, oc2.fp, L', rfl, hR, hobj'.weak hsubM, ?_, ?_, fun b hb => ?_, ?_⟩
    · exact repVs_frame (Nat.le_refl _) (fun b _ hm => hsubM b hm) (fun _ _ => rfl) _ _ _ h3
    · refine List.nodup_append.2 ⟨(nodup_Fps.1 hL.nodup).1 0 oc2 hC2, h5, fun a ha b hb hab => ?_⟩
      subst hab
      exact (hL.fps a (hfo a ha)).2 hb
    · have hbC : b ∈ Fps C := by
        rcases List.mem_append.1 hb with hb | hb
        · exact (hL.fps b (hfo b hb)).1
        · exact h6 b hb
      exact ⟨(hr.wd.mine b hbC).symm, hr.wd.lt b hbC⟩
    · exact ⟨hr.wd.os, hr.wd.tape, hr.wd.output, hr.wd.size, fun b hb hn => hr.wd.kept b hb hn⟩
  cases e with
  | normal => exact fin hq
  | ret => exact fin hq
  | _ => exact hq.elim
end Go.Pe

/- The walk as one recursion over the compact code, made for the simplifier: heads are unfolded first, what follows stays untouched. -/
set_option linter.all false
namespace Go.Pe
open Go Go.RowKit

/-- a guarded operation: by the value of its guard. -/
def execG (P : PG) (sv : SV) (want : Bool) (dst : Option Nat) (eff : Bool) (mo : MO) (os : List MOp) (s : St) (K : St → Prop) : Prop :=
  match sv with
  | .d (.bool b) => (b = want → stepO P s eff mo fun sv s' => execR P os ⟨putE s'.e dst sv, s'.o⟩ K) ∧ (b = !want → execR P os ⟨putE s.e dst .undef, s.o⟩ K)
  | .undef => execR P os ⟨putE s.e dst .undef, s.o⟩ K
  | _ => False

section
variable {P : PG} {s : St} {K : St → Prop} {os : List MOp} {dst : Option Nat} {eff : Bool} {mo : MO} {t : Nat} {want : Bool}

theorem execR_nil : execR P [] s K = K s := propext Iff.rfl
theorem execR_op : execR P (⟨dst, none, eff, mo⟩ :: os) s K = stepO P s eff mo fun sv s' => execR P os ⟨putE s'.e dst sv, s'.o⟩ K := propext Iff.rfl
theorem execR_g : execR P (⟨dst, some (t, want), eff, mo⟩ :: os) s K = execG P (look s.e t) want dst eff mo os s K := by
  simp only [execR, execG]
  all_goals
    generalize look s.e t = q
    match q with
    | .d (.bool b) => rfl
    | .d (.int _ _) => rfl
    | .d (.str _) => rfl
    | .d (.err _) => rfl
    | .d (.sl _ _ _) => rfl
    | .d (.st _) => rfl
    | .d (.ptr _) => rfl
    | .d (.clo _ _) => rfl
    | .d (.lnk _ _) => rfl
    | .d .nil => rfl
    | .d (.cons _ _) => rfl
    | .undef => rfl
    | .any => rfl
    | .nil => rfl
    | .own _ => rfl
    | .ptr _ _ _ => rfl
    | .el _ _ _ _ _ => rfl
    | .vw _ => rfl
    | .win _ _ _ => rfl
    | .tup _ => rfl
theorem execG_true : execG P (.d (.bool true)) true dst eff mo os s K = stepO P s eff mo fun sv s' => execR P os ⟨putE s'.e dst sv, s'.o⟩ K := by
  simp [execG]
theorem execG_false : execG P (.d (.bool false)) false dst eff mo os s K = stepO P s eff mo fun sv s' => execR P os ⟨putE s'.e dst sv, s'.o⟩ K := by
  simp [execG]
theorem execG_tf : execG P (.d (.bool true)) false dst eff mo os s K = execR P os ⟨putE s.e dst .undef, s.o⟩ K := by
  simp [execG]
theorem execG_ft : execG P (.d (.bool false)) true dst eff mo os s K = execR P os ⟨putE s.e dst .undef, s.o⟩ K := by
  simp [execG]
theorem execG_un : execG P .undef want dst eff mo os s K = execR P os ⟨putE s.e dst .undef, s.o⟩ K := propext Iff.rfl
theorem execG_split {b : Bool} (h1 : b = true → execG P (.d (.bool true)) want dst eff mo os s K) (h2 : b = false → execG P (.d (.bool false)) want dst eff mo os s K) : execG P (.d (.bool b)) want dst eff mo os s K := by
  cases b
  · exact h2 rfl
  · exact h1 rfl

@[congr] theorem execR_congr {s' : St} (h : s = s') : execR P os s K = execR P os s' K := by rw [h]
@[congr] theorem execG_congr {s' : St} {sv sv' : SV} (h : sv = sv') (h2 : s = s') : execG P sv want dst eff mo os s K = execG P sv' want dst eff mo os s' K := by rw [h, h2]
end

/-- nil slices become slices of the call's own. -/
def nilS : List (Nat × Nat) → St → St
  | [], s => s
  | (t, es) :: r, s => nilS r ⟨(t, .own s.o.length) :: s.e, s.o ++ [.val (.sl true es .nil)]⟩
def nilOK : List (Nat × Nat) → St → Prop
  | [], _ => True
  | (t, es) :: r, s => look s.e t = .nil ∧ nilOK r ⟨(t, .own s.o.length) :: s.e, s.o ++ [.val (.sl true es .nil)]⟩
set_option linter.unusedVariables false in
theorem mwp_nilS {c : Ctx} {m : MC} {Q : Exit → St → Prop} : ∀ (ts : List (Nat × Nat)) (s : St), nilOK ts s → MWp c m (nilS ts s) Q → MWp c m s Q
  | [], s, _, h => h
  | (t, es) :: r, s, hk, h => mwp_nil t es hk.1 (mwp_nilS r _ hk.2 h)

/-- the code's walk. -/
def execM (P : PG) : MC → St → (Exit → St → Prop) → Prop
  | .skip, s, Q => Q .normal s
  | .reg _ lv ms, s, Q => execR P ms s fun s' => Q .normal ⟨keepE lv s'.e, s'.o⟩
  | .seq x y, s, Q => execM P x s (thenQ (fun s' => execM P y s' Q) Q)
  | .cond p x y, s, Q => match evS s.e p with
    | .d (.bool b) => (b = true → execM P x s Q) ∧ (b = false → execM P y s Q)
    | _ => False
  | .block id x, s, Q => execM P x s (inB id Q)
  | .loop b, s, Q => ∃ (ts : List (Nat × Nat)) (α : Type) (S : α → St) (inv : α → Prop) (μ : α → Nat) (x0 : α), nilOK ts s ∧ Weak (nilS ts s) (S x0) ∧ inv x0 ∧
      ∀ x, inv x → execM P b (S x) (thenQ (fun s' => ∃ y, Weak s' (S y) ∧ inv y ∧ μ y < μ x) Q)
  | .exit id, s, Q => Q (.exit id) s
  | .ret, s, Q => Q .ret s
  | .hole, _, _ => False
  | .any un lv p, s, Q => ∃ J : St → Prop, (execA P un p [] s fun s' => J ⟨keepE lv s'.e, s'.o⟩) ∧ ∀ s', J s' → ∃ s1, Weak s' s1 ∧ Q .normal s1
  | .gh m, s, Q => ∃ (α : Type) (S : α → St), WeakX s S ∧ ∀ x, execM P m (S x) Q

def execC (P : PG) (sv : SV) (x y : MC) (s : St) (Q : Exit → St → Prop) : Prop :=
  match sv with
  | .d (.bool b) => (b = true → execM P x s Q) ∧ (b = false → execM P y s Q)
  | _ => False

section
variable {P : PG} {s : St} {Q : Exit → St → Prop} {x y : MC}

theorem execM_skip : execM P .skip s Q = Q .normal s := propext Iff.rfl
theorem execM_ret : execM P .ret s Q = Q .ret s := propext Iff.rfl
theorem execM_exit {i : Nat} : execM P (.exit i) s Q = Q (.exit i) s := propext Iff.rfl
theorem execM_seq : execM P (.seq x y) s Q = execM P x s (thenQ (fun s' => execM P y s' Q) Q) := propext Iff.rfl
theorem execM_block {i : Nat} : execM P (.block i x) s Q = execM P x s (inB i Q) := propext Iff.rfl
theorem execM_reg {d : Bool} {lv : List Nat} {ms : List MOp} : execM P (.reg d lv ms) s Q = execR P ms s fun s' => Q .normal ⟨keepE lv s'.e, s'.o⟩ := propext Iff.rfl
theorem execM_cond {p : Opd} : execM P (.cond p x y) s Q = execC P (evS s.e p) x y s Q := by
  simp only [execM, execC]
theorem execC_true : execC P (.d (.bool true)) x y s Q = execM P x s Q := by simp [execC]
theorem execC_false : execC P (.d (.bool false)) x y s Q = execM P y s Q := by simp [execC]
theorem execC_split {b : Bool} (h1 : b = true → execM P x s Q) (h2 : b = false → execM P y s Q) : execC P (.d (.bool b)) x y s Q := ⟨h1, h2⟩
@[congr] theorem execM_congr {s' : St} (h : s = s') : execM P x s Q = execM P x s' Q := by rw [h]
@[congr] theorem execC_congr {s' : St} {sv sv' : SV} (h : sv = sv') (h2 : s = s') : execC P sv x y s Q = execC P sv' x y s' Q := by rw [h, h2]
theorem thenQ_n {k : St → Prop} : thenQ k Q .normal s = k s := propext Iff.rfl
theorem thenQ_r {k : St → Prop} : thenQ k Q .ret s = Q .ret s := propext Iff.rfl
theorem thenQ_e {k : St → Prop} {i : Nat} : thenQ k Q (.exit i) s = Q (.exit i) s := propext Iff.rfl
theorem inB_n {i : Nat} : inB i Q .normal s = Q .normal s := propext Iff.rfl
theorem inB_r {i : Nat} : inB i Q .ret s = Q .ret s := propext Iff.rfl
theorem inB_e {i j : Nat} : inB i Q (.exit j) s = if j = i then Q .normal s else Q (.exit j) s := propext Iff.rfl
theorem exec_loop {α : Type} (S : α → St) (inv : α → Prop) (μ : α → Nat) (x0 : α) (h0 : Weak s (S x0)) (hi : inv x0)
    (body : ∀ z, inv z → execM P x (S z) (thenQ (fun s' => ∃ y, Weak s' (S y) ∧ inv y ∧ μ y < μ z) Q)) : execM P (.loop x) s Q := ⟨[], α, S, inv, μ, x0, trivial, h0, hi, body⟩
theorem exec_loopN {α : Type} (ts : List (Nat × Nat)) (S : α → St) (inv : α → Prop) (μ : α → Nat) (x0 : α) (hn : nilOK ts s) (h0 : Weak (nilS ts s) (S x0)) (hi : inv x0)
    (body : ∀ z, inv z → execM P x (S z) (thenQ (fun s' => ∃ y, Weak s' (S y) ∧ inv y ∧ μ y < μ z) Q)) : execM P (.loop x) s Q := ⟨ts, α, S, inv, μ, x0, hn, h0, hi, body⟩
end

theorem mwp_mono {c : Ctx} {m : MC} {s : St} {Q Q' : Exit → St → Prop} (h : MWp c m s Q) (hq : ∀ e s', Q e s' → Q' e s') : MWp c m s Q' := by
  intro lv code hc C a w hr
  exact Code.wp_mono (fun e a' w' ⟨s', C', h1, h2⟩ => ⟨s', C', hq e s' h1, h2⟩) (h lv code hc C a w hr)

theorem mwp_reg0 {c : Ctx} {draw : Bool} {lv : List Nat} {ms : List MOp} {s : St} {Q : Exit → St → Prop} (hx : execR c.G ms s (fun s' => Q .normal ⟨keepE lv s'.e, s'.o⟩)) : MWp c (.reg draw lv ms) s Q := by
  intro lv' code hc C a w hr
  obtain ⟨id, ops, rfl, h1, h2⟩ := comp_reg hc
  cases draw with
  | true =>
    obtain ⟨h3, h4⟩ := h2 rfl
    refine wp_region_draw_E (C := C) h3 h4 (fun j o d hj => compOps_dst _ _ h1 o (List.mem_of_getElem? (by rw [Array.getElem?_toList]; exact hj)) d) hr.relE (lex_of_exec _ _ s _ h1 hx) ?_
    rintro E a' w' hE ⟨e', hK, rfl⟩
    exact ⟨_, C, hK, Rel.weak (s := ⟨e', s.o⟩) ⟨hE.tmps, hE.defers, hE.env, hE.wd, hE.fix⟩ (look_keepE lv e')⟩
  | false =>
    refine wp_region_list (wpList_of_exec (K := fun s' => Q .normal ⟨keepE lv s'.e, s'.o⟩) ?_ _ _ s C a w h1 hr hx)
    intro s' C' a' w' hr' hK
    exact ⟨_, C', hK, hr'.weak (look_keepE lv s'.e)⟩

theorem mwp_of_exec {c : Ctx} : ∀ (m : MC) (s : St) (Q : Exit → St → Prop), execM c.G m s Q → MWp c (erase m) s Q
  | .gh m, s, Q, h => by
      obtain ⟨α, S, hk, h⟩ := h
      exact mwp_weakX hk fun x => mwp_of_exec m (S x) Q (h x)
  | .skip, s, Q, h => mwp_skip h
  | .ret, s, Q, h => mwp_ret h
  | .exit i, s, Q, h => mwp_exit h
  | .hole, s, Q, h => h.elim
  | .any un lv p, s, Q, h => by
      obtain ⟨J, h1, h2⟩ := h
      exact mwp_any h1 h2
  | .reg d lv ms, s, Q, h => mwp_reg0 h
  | .seq x y, s, Q, h => mwp_seq (mwp_mono (mwp_of_exec x s _ h) fun e s' hq => by
      cases e with
      | normal => exact mwp_of_exec y s' Q hq
      | _ => exact hq)
  | .cond p x y, s, Q, h => by
      simp only [execM] at h
      split at h
      · rename_i b hb
        exact mwp_cond hb (fun e => mwp_of_exec x s Q (h.1 e)) (fun e => mwp_of_exec y s Q (h.2 e))
      · exact h.elim
  | .block i x, s, Q, h => mwp_block (mwp_of_exec x s _ h)
  | .loop b, s, Q, h => by
      obtain ⟨ts, α, S, inv, μ, x0, hn, h0, hi, hb⟩ := h
      exact mwp_nilS ts s hn <| mwp_loop S inv μ x0 h0 hi fun x hx => mwp_of_exec b (S x) _ (hb x hx)

theorem body_comp {P : Program} {n : Nat × Nat} {lv : List (Nat × List Nat)} {b : Option Code} {m : MC} (h : b.bind (comp P n lv) = some m) : erase m = m := by
  cases b with
  | none => cases h
  | some code => exact comp_erase code m h

theorem Fn_ofg (ps : List (List Nat)) {lo : Nat} {P : PG} {f : FuncId} {fn : Func} {lv : List (Nat × List Nat)} {m : MC} {ds : List D} {R : List D → Prop} (hf : P.P.funcs[f]? = some fn)
    (hb : fn.body.bind (comp P.P (lo, fn.ntmps) lv) = some m) (hk : resOK P.P fn.results.toList = true) {n : Nat} (hnn : fn.ntmps = n) {rv : List ResultVar} (hr : fn.results.toList = rv) (hn : ds.length ≤ n)
    (h : execM P (ghAll ps m) ⟨initE 0 ds, []⟩ (RetQ P.P rv R)) : Fn P f ds R := by
  subst hnn hr
  have he : erase (ghAll ps m) = m := (erase_ghAll ps m).trans (body_comp hb)
  cases hc : fn.body with
  | none => rw [hc] at hb; cases hb
  | some code => rw [hc] at hb; exact Fn_of hf hc hb hk hn fun c hP _ => by rw [← he]; exact mwp_of_exec _ _ _ (by rw [hP]; exact h)
theorem Fn_of' {lo : Nat} {P : PG} {f : FuncId} {fn : Func} {lv : List (Nat × List Nat)} {m : MC} {ds : List D} {R : List D → Prop} (hf : P.P.funcs[f]? = some fn)
    (hb : fn.body.bind (comp P.P (lo, fn.ntmps) lv) = some m) (hk : resOK P.P fn.results.toList = true) {n : Nat} (hnn : fn.ntmps = n) {rv : List ResultVar} (hr : fn.results.toList = rv) (hn : ds.length ≤ n)
    (h : execM P m ⟨initE 0 ds, []⟩ (RetQ P.P rv R)) : Fn P f ds R := Fn_ofg [] hf hb hk hnn hr hn h

theorem FnM_ofg (ps : List (List Nat)) {lo : Nat} {P : PG} {f : FuncId} {fn : Func} {lv : List (Nat × List Nat)} {m : MC} {bx : Bool} {x : D} {ds : List D} {R : D → List D → Prop} (hf : P.P.funcs[f]? = some fn)
    (hb : fn.body.bind (comp P.P (lo, fn.ntmps) lv) = some m) (hk : resOK P.P fn.results.toList = true) {n : Nat} (hnn : fn.ntmps = n) {rv : List ResultVar} (hr : fn.results.toList = rv) (hlo : 0 < lo) (hn : ds.length + 1 ≤ n)
    (h : execM P (ghAll ps m) ⟨(0, firstS bx 0) :: initE 1 ds, [mkOb bx x]⟩ (RetQM P.P rv bx R)) : FnM P f bx x ds R := by
  subst hnn hr
  have he : erase (ghAll ps m) = m := (erase_ghAll ps m).trans (body_comp hb)
  cases hc : fn.body with
  | none => rw [hc] at hb; cases hb
  | some code => rw [hc] at hb; exact FnM_of hf hc hb hlo hk hn fun c hP _ => by rw [← he]; exact mwp_of_exec _ _ _ (by rw [hP]; exact h)
theorem FnM_of' {lo : Nat} {P : PG} {f : FuncId} {fn : Func} {lv : List (Nat × List Nat)} {m : MC} {bx : Bool} {x : D} {ds : List D} {R : D → List D → Prop} (hf : P.P.funcs[f]? = some fn)
    (hb : fn.body.bind (comp P.P (lo, fn.ntmps) lv) = some m) (hk : resOK P.P fn.results.toList = true) {n : Nat} (hnn : fn.ntmps = n) {rv : List ResultVar} (hr : fn.results.toList = rv) (hlo : 0 < lo) (hn : ds.length + 1 ≤ n)
    (h : execM P m ⟨(0, firstS bx 0) :: initE 1 ds, [mkOb bx x]⟩ (RetQM P.P rv bx R)) : FnM P f bx x ds R := FnM_ofg [] hf hb hk hnn hr hlo hn h

/-- a ghost step. -/
theorem exec_gh {P : PG} {m : MC} {s : St} {Q : Exit → St → Prop} {α : Type} (S : α → St) (hk : WeakX s S) (h : ∀ x, execM P m (S x) Q) : execM P (.gh m) s Q := ⟨α, S, hk, h⟩
theorem exec_gh1 {P : PG} {m : MC} {s s' : St} {Q : Exit → St → Prop} (hk : Weak s s') (h : execM P m s' Q) : execM P (.gh m) s Q := ⟨Unit, _, hk.x, fun _ => h⟩

def weakE (n : Nat) (e : Env) : Env → Prop
  | [] => True
  | (k, sv) :: r => (look e k = sv ∧ bnd0 n sv = true) ∧ weakE n e r

/-! ### plans -/
def onJ (F : (St → Prop) → Prop) (Q : St → Prop) : Prop := ∃ J : St → Prop, F J ∧ ∀ s', J s' → ∃ s1, Weak s' s1 ∧ Q s1
section
variable {P : PG} {un : List Nat} {i r : Nat} {m : MOp} {k x y : MP} {R : List Nat} {s : St} {K : St → Prop}
theorem execM_any {lv : List Nat} {p : MP} {Q : Exit → St → Prop} : execM P (.any un lv p) s Q = onJ (fun J => execA P un p [] s fun s' => J ⟨keepE lv s'.e, s'.o⟩) (fun s1 => Q .normal s1) := propext Iff.rfl
theorem onJ_q {F : (St → Prop) → Prop} {Q : St → Prop} (h : F Q) : onJ F Q := ⟨Q, h, fun s' hs => ⟨s', Weak.refl s', hs⟩⟩
theorem onJ_one {F : (St → Prop) → Prop} {Q : St → Prop} (s1 : St) (h : F fun s' => Weak s' s1) (hq : Q s1) : onJ F Q := ⟨_, h, fun s' hs => ⟨s1, hs, hq⟩⟩
theorem execA_done : execA P un .done R s K = K s := propext Iff.rfl
theorem execA_q : execA P un (.q i m k) R s K = execR P [m] s fun s' => execA P un k (addR (opRefs s m) R) s' K := propext Iff.rfl
theorem execA_br : execA P un (.br x y) R s K = (execA P un x R s K ∧ execA P un y R s K) := propext Iff.rfl
theorem showE_nil (dst : Option Nat) (e0 : Env) : ∀ e : Env, showE [] dst e0 e = []
  | [] => rfl
  | (t, _) :: e => by
    have : backS [] (look e0 t) = false := by cases look e0 t <;> rfl
    simp only [showE, this, Bool.false_and, Bool.false_eq_true, if_false]
    exact showE_nil dst e0 e
theorem execA_e0 : execA P un (.e i m k) [] s K = execR P [m] s fun s' => execA P un k [] s' K := by
  simp only [execA, killL, hideO, showO, showE_nil, hideOK, List.all_nil, List.nil_append, true_and, ite_self]
def execE (P : PG) (u : Bool) (un : List Nat) (m : MOp) (k : MP) (R : List Nat) (s : St) (K : St → Prop) : Prop :=
  if u then execR P [m] s fun s' => execA P un k [] s' K
  else execR P [m] ⟨killL R s.e, hideO R s.o⟩ fun s' => hideOK R s.o s'.o = true ∧ execA P un k R ⟨showE R m.dst s.e s.e ++ killL R s'.e, showO s.o R s'.o⟩ K
theorem execA_eR : execA P un (.e i m k) (r :: R) s K = execE P (un.contains i) un m k (r :: R) s K := propext Iff.rfl
theorem execE_t : execE P true un m k R s K = execR P [m] s fun s' => execA P un k [] s' K := by simp [execE]
theorem execE_f : execE P false un m k R s K = execR P [m] ⟨killL R s.e, hideO R s.o⟩ fun s' => hideOK R s.o s'.o = true ∧ execA P un k R ⟨showE R m.dst s.e s.e ++ killL R s'.e, showO s.o R s'.o⟩ K := by simp [execE]
@[congr] theorem execA_congr {p : MP} {R' : List Nat} {s' : St} (hR : R = R') (hs : s = s') : execA P un p R s K = execA P un p R' s' K := by rw [hR, hs]
@[congr] theorem execE_congr {u u' : Bool} {R' : List Nat} {s' : St} (hu : u = u') (hR : R = R') (hs : s = s') : execE P u un m k R s K = execE P u' un m k R' s' K := by rw [hu, hR, hs]
end

theorem weak_of {s s' : St} (x : List Ob) (h : s.o = s'.o ++ x) (h2 : weakE s'.o.length s.e s'.e) (h3 : tagsB s'.o.length s'.o = true := by rfl) : Weak s s' := by
  refine Weak0.weak ⟨⟨x, h⟩, fun t => ?_, h3⟩
  generalize s'.e = e' at h2
  induction e' with
  | nil => exact .inl rfl
  | cons p r ih =>
    obtain ⟨k, sv⟩ := p
    simp only [look]
    by_cases e : k = t
    · subst e; simp only [if_true]; exact .inr ⟨h2.1.1.symm, h2.1.2⟩
    · simp only [e, if_false]; exact ih h2.2
end Go.Pe
