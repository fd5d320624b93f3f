/- The program's round, walked to its end: what is asked of it (roundOK) is so. -/
import Derived.Test.YthndnmhihndiaaaDoorW2
import Derived.Maps.AppendAt
set_option maxRecDepth 100000
set_option maxHeartbeats 4000000
set_option linter.all false
namespace Go.Pe.Tryd
open Go Go.RowKit Go.Shelf Go.Proofs.ChkTryd
attribute [local go_sem] Oper.semAt_some
theorem ints_rep {w : World} {M : Nat → Prop} : ∀ v : List Int, (dl iD v).rep w M (v.map (Value.int .i64)) []
  | [] => ⟨rfl, rfl⟩
  | n :: v => ⟨[.int .i64 n], _, [], [], rfl, rfl, ⟨rfl, rfl⟩, ints_rep v⟩
theorem ints_rep_inv {w : World} {M : Nat → Prop} : ∀ (v : List Int) (cs : List Value) (fp : List Nat), (dl iD v).rep w M cs fp → cs = v.map (Value.int .i64) ∧ fp = []
  | [], cs, fp, h => h
  | n :: v, cs, fp, h => by
    obtain ⟨c1, c2, f1, f2, rfl, rfl, ⟨rfl, rfl⟩, h2⟩ := h
    obtain ⟨rfl, rfl⟩ := ints_rep_inv v c2 f2 h2
    exact ⟨rfl, rfl⟩
theorem ints_isL : ∀ v : List Int, (dl iD v).isL 1
  | [] => trivial
  | n :: v => ⟨rfl, ints_isL v⟩
/-- u is a slice of its own blocks fp with the numbers out. -/
def SlI (W : World) (u : Value) (out : List Int) (fp : List Nat) : Prop :=
  (∃ a, u = .slice a 0 0 ∧ out = [] ∧ fp = []) ∨ ∃ g c, u = .slice (some ⟨g, 0, none⟩) out.length c ∧ out.length ≤ c ∧ RowAt W g c (out.map (Value.int .i64)) ∧ fp = [g]
theorem SlI.rep {W : World} {M : Nat → Prop} {u : Value} {out : List Int} {fp : List Nat} (h : SlI W u out fp) : (D.sl true 1 (dl iD out)).rep W M [u] fp := by
  rcases h with ⟨a, rfl, rfl, rfl⟩ | ⟨g, c, rfl, hc, hr, rfl⟩
  · exact ⟨trivial, a, 0, [], [], rfl, Nat.le_refl _, ⟨rfl, rfl⟩, by simp⟩
  · refine ⟨ints_isL out, _, c, _, [], by rw [dl_len], by rw [dl_len]; exact hc, ints_rep out, ?_⟩
    simp only [if_true]
    exact .inr ⟨g, rfl, by rw [Nat.mul_one]; exact hr, rfl⟩
theorem SlI.of {W : World} {M : Nat → Prop} {cs : List Value} {out : List Int} {fp : List Nat} (h : (D.sl true 1 (dl iD out)).rep W M cs fp) : ∃ u, cs = [u] ∧ SlI W u out fp := by
  obtain ⟨_, a, c, ds, fps, rfl, hc, h3, h4⟩ := h
  obtain ⟨rfl, rfl⟩ := ints_rep_inv _ _ _ h3
  rw [dl_len] at hc ⊢
  refine ⟨_, rfl, ?_⟩
  simp only [if_true] at h4
  rcases h4 with ⟨rfl, _, rfl⟩ | ⟨g, rfl, hr, rfl⟩
  · have e : out = [] := List.length_eq_zero_iff.1 (by omega)
    subst e
    exact .inl ⟨a, rfl, rfl, rfl⟩
  · rw [Nat.mul_one] at hr
    exact .inr ⟨g, c, rfl, hc, hr, rfl⟩
theorem rowCells {W : World} {g n : Nat} {ds : List Value} (h : RowAt W g n ds) : ∃ o : Obj, W.heap[g]? = some o ∧ o.isCells = true := by
  obtain ⟨cur, E, ⟨fz, h1, _⟩, _⟩ := h
  exact ⟨_, h1, rfl⟩
theorem SlI.row {W : World} {u : Value} {out : List Int} {fp : List Nat} (h : SlI W u out fp) : ∀ b ∈ fp, ∃ o : Obj, W.heap[b]? = some o ∧ o.isCells = true := by
  rcases h with ⟨a, rfl, rfl, rfl⟩ | ⟨g, c, rfl, hc, hr, rfl⟩
  · intro b hb; cases hb
  · intro b hb; rw [List.mem_singleton.1 hb]; exact rowCells hr
theorem SlI.keep {W W' : World} {u : Value} {out : List Int} {fp : List Nat} (h : SlI W u out fp) (hk : ∀ b ∈ fp, W'.heap[b]? = W.heap[b]?) : SlI W' u out fp := by
  rcases h with ⟨a, rfl, rfl, rfl⟩ | ⟨g, c, rfl, hc, hr, rfl⟩
  · exact .inl ⟨a, rfl, rfl, rfl⟩
  · exact .inr ⟨g, c, rfl, hc, hr.frame (hk g (by simp)), rfl⟩
/-- the variable in block B holds a slice of its own with the numbers out. -/
def BoxI (n0 B : Nat) (W : World) (out : List Int) : Prop := ∃ u fp, RowAt W B 1 [u] ∧ SlI W u out fp ∧ B ∉ fp ∧ ∀ b ∈ fp, n0 ≤ b
theorem BoxI.kept {n0 B : Nat} {W W' : World} {out : List Int} {row : Option Nat} (h : BoxI n0 B W out) (hg : W.grownBy W' row) (hr : ∀ r, row = some r → ∃ o : Obj, W.heap[r]? = some o ∧ o.isCells = false) : BoxI n0 B W' out := by
  obtain ⟨u, fp, h1, h2, h3, h4⟩ := h
  have key : ∀ b : Nat, (∃ o : Obj, W.heap[b]? = some o ∧ o.isCells = true) → W'.heap[b]? = W.heap[b]? := by
    rintro b ⟨o, hb, ho⟩
    refine hg.block b (Array.getElem?_eq_some_iff.1 hb).1 fun e => ?_
    obtain ⟨o', hb', ho'⟩ := hr b e.symm
    rw [hb] at hb'
    injection hb' with hb'
    rw [← hb', ho] at ho'
    cases ho'
  exact ⟨u, fp, h1.frame (key B (rowCells h1)), h2.keep fun b hb => key b (h2.row b hb), h3, h4⟩
theorem BoxI.own (n0 B : Nat) {β : Type} (f : β → List Int) : Own (fun s W => BoxI n0 B W (f s)) := fun s X Y row h hg hr => BoxI.kept h hg hr
theorem fps_one (oc : OC) : Fps [oc] = oc.fp := by simp [Fps]
/-- one round of the loop, from raw memory to raw memory. -/
theorem body_raw (w W : World) (M : Nat → Prop) (hgl : GOK prog w M) (n0 B b off : Nat) (out pr : List Int) (g : Int) (tm : Array Value) (htm : tm.size = (Go.Proofs.Tryd.f78).ntmps)
    (h3 : tm.getD 3 Go.undef = .pointer (some ⟨B, 0, none⟩)) (h4 : tm.getD 4 Go.undef = .slice (some ⟨b, off, none⟩) pr.length pr.length) (hprl : 0 < pr.length)
    (hc : ∀ j u, pr[j]? = some u → W.cell? ⟨b, off + j, none⟩ = some (.int .i64 u)) (hbw : b < w.heap.size) (hBw : w.heap.size ≤ B) (hn0 : w.heap.size ≤ n0) (hn1 : n0 ≤ W.heap.size) (hB : BoxI n0 B W out) (hbel : Below w.heap.size w W)
    (hg : (∃ x y, pr = [x, y] ∧ hashOK x ∧ hashOK y ∧ g = pairH x y) ∨ pr = [g]) (ho : out.length ≤ 1000000) (r n : Nat) :
    ∃ bd, (Go.Proofs.Tryd.f78).body.bind rfBody = some bd ∧ bd.wpIn (Fence.wide.inRound r) n Go.Proofs.Tryd.prog (fun e a' W' => e = .normal ∧ BoxI n0 B W' (out ++ [g]) ∧ W'.os = W.os ∧ W'.tape = W.tape ∧ W'.output = W.output ∧ W.heap.size ≤ W'.heap.size ∧
      (∀ k, k < W.heap.size → k < n0 → k ≠ B → W'.heap[k]? = W.heap[k]?) ∧ (∀ (k : Nat) (o : Obj), W.heap[k]? = some o → o.isCells = false → W'.heap[k]? = some o)) { tmps := tm, defers := [] } W := by
  obtain ⟨bd, hbd, H⟩ := roundBody out pr g hg ho
  refine ⟨bd, hbd, ?_⟩
  obtain ⟨u, fp, q1, q2, q3, q4⟩ := hB
  have hfpl : ∀ k ∈ B :: fp, k < W.heap.size := fun k hk => by
    rcases List.mem_cons.1 hk with rfl | hk
    · exact q1.lt
    · obtain ⟨o, h, _⟩ := q2.row k hk
      exact (Array.getElem?_eq_some_iff.1 h).1
  have hnd : (B :: fp).Nodup := by
    rcases q2 with ⟨_, _, _, rfl⟩ | ⟨_, _, _, _, _, rfl⟩
    · simp
    · exact List.nodup_cons.2 ⟨q3, by simp⟩
  have hge : ∀ k ∈ B :: fp, w.heap.size ≤ k := fun k hk => by
    rcases List.mem_cons.1 hk with rfl | hk
    · exact hBw
    · have := q4 k hk; omega
  let c : Ctx := { G := prog, n := (Go.Proofs.Tryd.f78).ntmps, w0 := W, M0 := fun _ => False, g0 := B :: fp, lo := 8, fx := fun t => tm.getD t Go.undef }
  let oc : OC := { v := Go.undef, blk := B, fp := B :: fp }
  have hMs : ∀ k, Ms c [oc] k ↔ k ∈ B :: fp := fun k => by simp [Ms, Fps, c, oc]
  have hrel : Rel c ⟨[(3, .ptr 0 0 []), (4, .d (.sl false 1 (dl iD pr)))], [.box (.sl true 1 (dl iD out))]⟩ [oc] { tmps := tm, defers := [] } W := by
    refine ⟨htm, rfl, fun t => ?_, ?_, fun t _ => rfl⟩
    · simp only [look]
      by_cases e3 : 3 = t
      · subst e3
        simp only [if_true]
        exact ⟨oc, rfl, h3⟩
      · simp only [e3, if_false]
        by_cases e4 : 4 = t
        · subst e4
          simp only [if_true]
          refine ⟨[.slice (some ⟨b, off, none⟩) pr.length pr.length], ⟨ints_isL pr, _, pr.length, _, [], by rw [dl_len], by rw [dl_len]; exact Nat.le_refl _, ints_rep pr, ?_⟩, h4⟩
          simp only [Bool.false_eq_true, if_false]
          refine ⟨trivial, trivial, .inr ⟨_, rfl, .inr ⟨?_, ?_, ?_⟩⟩⟩
          · exact Nat.lt_of_lt_of_le hbw hbel.size
          · intro h
            have := hge b ((hMs b).1 h)
            omega
          · intro j x hx
            rw [Addr.add_lit]
            rw [List.getElem?_map] at hx
            obtain ⟨y, hy, rfl⟩ := Option.map_eq_some_iff.1 hx
            exact hc j y hy
        · simp only [e4, if_false]
          trivial
    · refine ⟨rfl, ?_, ?_, ?_, ?_, ?_, ?_, rfl, rfl, rfl, Nat.le_refl _, fun _ _ _ => rfl, fun k h => h.elim, ?_⟩
      · intro k ob oc' h1 h2
        cases k with
        | succ k => simp at h1
        | zero =>
          simp only [List.getElem?_cons_zero, Option.some.injEq] at h1 h2
          subst h1 h2
          exact ⟨[u], fp, q1, q2.rep, rfl⟩
      · intro q k v h
        cases q <;> simp at h
      · rw [fps_one]; exact hnd
      · rw [fps_one]; exact hfpl
      · intro k _ h; exact h
      · intro k hk; rw [fps_one] at hk; exact .inr hk
      · obtain ⟨w1, f1, f2, f3⟩ := hgl
        refine ⟨w1, f1, Nat.le_trans f2 hbel.size, fun k hk => ⟨fun h => ?_, ?_⟩⟩
        · have := hge k ((hMs k).1 h); omega
        · rw [hbel.block k (by omega)]; exact (f3 k hk).2
  refine wpIn_mono (H c rfl rfl [oc] _ W hrel r n) ?_
  rintro e a' W' ⟨s', C', ⟨rfl, hl3, x, hx⟩, hr'⟩
  refine ⟨rfl, ?_, hr'.wd.os, hr'.wd.tape, hr'.wd.output, hr'.wd.size, ?_, ?_⟩
  · have hv := hr'.env 3
    rw [hl3] at hv
    obtain ⟨oc', g1, g2⟩ := hv
    have hfx := hr'.fix 3 (show 3 < 8 by decide)
    rw [hfx] at g2
    have e := h3.symm.trans g2
    simp only [Value.pointer.injEq, Option.some.injEq, Addr.mk.injEq, and_true] at e
    obtain ⟨cs, fps, k1, k2, k3⟩ := hr'.wd.obs 0 _ oc' (by rw [hx]; rfl) g1
    obtain ⟨u', rfl, k4⟩ := SlI.of k2
    rw [← e] at k1 k3
    have hmem : ∀ k ∈ fps, k ∈ Fps C' := fun k hk => mem_Fps.2 ⟨0, oc', g1, by rw [k3]; exact List.mem_cons_of_mem _ hk⟩
    have hnd' := (nodup_Fps.1 hr'.wd.nodup).1 0 oc' g1
    rw [k3] at hnd'
    refine ⟨u', fps, k1, k4, (List.nodup_cons.1 hnd').1, fun k hk => ?_⟩
    rcases hr'.wd.mine k (hmem k hk) with h | h
    · exact Nat.le_trans hn1 h
    · rcases List.mem_cons.1 h with h | h
      · rw [h] at hk; exact absurd hk (List.nodup_cons.1 hnd').1
      · exact q4 k h
  · intro k hk hkn hkB
    refine hr'.wd.kept k hk fun h => ?_
    rcases List.mem_cons.1 h with h | h
    · exact hkB h
    · have := q4 k h; omega
  · intro k o hk ho
    rw [← hk]
    refine hr'.wd.kept k (Array.getElem?_eq_some_iff.1 hk).1 fun h => ?_
    have : ∃ o : Obj, W.heap[k]? = some o ∧ o.isCells = true := by
      rcases List.mem_cons.1 h with h | h
      · rw [h]; exact rowCells q1
      · exact q2.row k h
    obtain ⟨o', h1, h2⟩ := this
    rw [hk] at h1
    injection h1 with h1
    rw [h1, h2] at ho
    cases ho
/-- what the piece from 2k on gives. -/
def gR (v : List Int) (k : Nat) : Int := match v[2 * k]?, v[2 * k + 1]? with
  | some a, some b => pairH a b
  | some a, none => a
  | _, _ => 0
theorem gR_next (v : List Int) (a b : Int) (k : Nat) : gR (a :: b :: v) (k + 1) = gR v k := by
  unfold gR
  rw [show 2 * (k + 1) = 2 * k + 1 + 1 by omega, List.getElem?_cons_succ, List.getElem?_cons_succ, List.getElem?_cons_succ, List.getElem?_cons_succ]
theorem roundL_eq : ∀ v : List Int, (List.range ((v.length + 1) / 2)).map (gR v) = roundL v
  | [] => rfl
  | [a] => by simp [gR, roundL]
  | a :: b :: v => by
    have ih := roundL_eq v
    have e : ((a :: b :: v).length + 1) / 2 = (v.length + 1) / 2 + 1 := by simp only [List.length_cons]; omega
    rw [e, List.range_succ_eq_map, List.map_cons, List.map_map]
    have e2 : (gR (a :: b :: v) ∘ Nat.succ) = gR v := by
      funext k
      exact gR_next v a b k
    rw [e2, ih]
    rfl
theorem piece (v : List Int) (hv : ∀ n ∈ v, hashOK n) (k : Nat) (hk : 2 * k < v.length) : ∃ pr : List Int, pr.length = min 2 (v.length - 2 * k) ∧ (∀ j u, pr[j]? = some u → v[2 * k + j]? = some u) ∧ ((∃ x y, pr = [x, y] ∧ hashOK x ∧ hashOK y ∧ gR v k = pairH x y) ∨ pr = [gR v k]) := by
  obtain ⟨a, ha⟩ := get_lt hk
  by_cases h2 : 2 * k + 1 < v.length
  · obtain ⟨b, hb⟩ := get_lt h2
    refine ⟨[a, b], by simp; omega, fun j u hj => ?_, .inl ⟨a, b, rfl, hv a (List.mem_of_getElem? ha), hv b (List.mem_of_getElem? hb), by unfold gR; rw [ha, hb]⟩⟩
    match j, hj with
    | 0, hj => simp at hj; rw [← hj]; exact ha
    | 1, hj => simp at hj; rw [← hj]; exact hb
    | j + 2, hj => simp at hj
  · have hb : v[2 * k + 1]? = none := List.getElem?_eq_none (by omega)
    have hg : gR v k = a := by unfold gR; rw [ha, hb]
    refine ⟨[a], by simp; omega, fun j u hj => ?_, .inr (by rw [hg])⟩
    match j, hj with
    | 0, hj => simp at hj; rw [← hj]; exact ha
    | j + 1, hj => simp at hj
def outsI {len : Nat} (v : List Int) (pre : List (Ix len)) : List Int := pre.map fun x => gR v x.1
theorem rowAt_box {W : World} {B : Nat} {t : TypeId} {u : Value} (h : Boxed W B t u) : RowAt W B 1 [u] := ⟨#[u], t, ⟨(0, 0), h, .inl (Nat.le_refl _)⟩, rfl, rfl⟩
theorem box_cell {W : World} {B : Nat} {u : Value} (h : RowAt W B 1 [u]) : W.cell? ⟨B, 0, none⟩ = some u := by
  obtain ⟨cur, E, h1, h2, h3⟩ := h
  rw [h1.cell 0]
  have : cur.toList[0]? = some u := by
    have e := congrArg (fun l : List Value => l[0]?) h3
    simp only [List.length_singleton, List.getElem?_cons_zero, List.getElem?_take] at e
    simpa using e
  simpa using this
set_option maxRecDepth 100000 in
set_option maxHeartbeats 4000000 in
theorem round_raw (v : List Int) (hv : ∀ n ∈ v, hashOK n) (hl : v.length ≤ 1000) (w : World) (M : Nat → Prop) (hgl : GOK prog w M) (a : Option Addr) (cap b off : Nat)
    (ha : v.length = 0 ∨ (a = some ⟨b, off, none⟩ ∧ v.length ≤ cap ∧ b < w.heap.size ∧ ∀ j u, v[j]? = some u → w.cell? ⟨b, off + j, none⟩ = some (.int .i64 u))) :
    Calls Go.Proofs.Tryd.prog 78 #[.slice a v.length cap] w fun e W' => ∃ u fp, e = .returned u ∧ SlI W' u (roundL v) fp ∧ (∀ k ∈ fp, w.heap.size ≤ k) ∧ Ext w W' := by
  refine (callsIn_wide (n := 4)).1 ?_
  refine callsIn_of_wp_marks Go.Proofs.Tryd.func78 rfl trivial ?_ rfl
  have hnt : Go.Proofs.Tryd.f78.ntmps = 28 := rfl
  simp only [hnt, List.size_toArray, List.length_cons, List.length_nil, Nat.reduceAdd, Nat.reduceSub, Array.replicate_succ, Array.replicate_zero, List.push_toArray, List.append_toArray, List.nil_append, List.cons_append]
  gi_wp2_with (refine ⟨trivial, ?_⟩; gi_at_call 107; refine (chunk_in Fence.wide (4 - 1) trivial rfl _ _ _ _).mono ?_; rintro e w' ⟨rfl, rfl⟩)
  obtain ⟨W0, hW0⟩ : ∃ W0, W0 = ((w.alloc (.cells #[.slice none 0 0] 27)).alloc (.cells #[.slice a v.length cap] 27)).alloc (.cells #[.int .i64 2] 3) := ⟨_, rfl⟩
  have hsz : W0.heap.size = w.heap.size + 3 := by rw [hW0]; simp
  have hbel0 : Below w.heap.size w W0 := by
    rw [hW0]
    exact (((Below.refl _ w).alloc (Nat.le_refl _) _).alloc (by simp) _).alloc (by simp; omega) _
  have bO := Boxed.new w 27 (.slice none 0 0)
  have bS := Boxed.new (w.alloc (.cells #[.slice none 0 0] 27)) 27 (.slice a v.length cap)
  have bN := Boxed.new ((w.alloc (.cells #[.slice none 0 0] 27)).alloc (.cells #[.slice a v.length cap] 27)) 3 (.int .i64 2)
  rw [World.size_alloc] at bS
  rw [World.size_alloc, World.size_alloc] at bN
  have cS : W0.cell? ⟨w.heap.size + 1, 0, none⟩ = some (.slice a v.length cap) := by rw [hW0]; exact (bS.alloc _).cell
  have cN : W0.cell? ⟨w.heap.size + 1 + 1, 0, none⟩ = some (.int .i64 2) := by rw [hW0]; exact bN.cell
  have bI : BoxI (w.heap.size + 3) w.heap.size W0 [] := by
    rw [hW0]
    exact ⟨.slice none 0 0, [], rowAt_box ((bO.alloc _).alloc _), .inl ⟨none, rfl, rfl, rfl⟩, by simp, by simp⟩
  rw [← hW0]
  refine wpIn_rangeFunc_ownF rfl (by decide) (gf := 124) (lb := #[.pointer (some ⟨w.heap.size + 1, 0, none⟩), .pointer (some ⟨w.heap.size + 1 + 1, 0, none⟩)]) rfl trivial (Go.Proofs.enters_of Go.Proofs.Tryd.func124 (by kernel_rfl) rfl)
    (chunk_stops Fence.wide (4 - 1) trivial rfl (by decide) (w.heap.size + 1) (w.heap.size + 1 + 1) w.heap.size b off v.length cap a (by omega) W0 (ha.imp id fun h => ⟨h.1, h.2.1, h.2.2.1⟩) (by omega) (by omega) cS cN)
    Keep.trans ?kb (Below.refl _ _) (fun _ => rfl)
    (fun pre W => BoxI (w.heap.size + 3) w.heap.size W (outsI v pre) ∧ Below w.heap.size w W ∧ w.heap.size + 3 ≤ W.heap.size)
    (fun _ _ _ => False)
    (OwnFrom.and ((BoxI.own (w.heap.size + 3) w.heap.size (outsI v)).from _) (OwnFrom.and (ownFrom_below (Nat.le_refl _) (by omega)) (fun s A B row hs hg hr => Nat.le_trans hs hg.size)))
    (fun _ _ _ _ _ hs _ _ => hs)
    ⟨bI, hbel0, by omega⟩
    (fun x => { tmps := #[.slice a v.length cap, undef, .slice none 0 0, .pointer (some ⟨w.heap.size, 0, none⟩), .slice (some ⟨b, off + 2 * x.1, none⟩) (min 2 (v.length - 2 * x.1)) (min 2 (v.length - 2 * x.1)), .slice a v.length cap, .func (.func 124) #[] #[.pointer (some ⟨w.heap.size + 1, 0, none⟩), .pointer (some ⟨w.heap.size + 1 + 1, 0, none⟩)], .slice (some ⟨b, off + 2 * x.1, none⟩) (min 2 (v.length - 2 * x.1)) (min 2 (v.length - 2 * x.1)), undef, undef, undef, undef, undef, undef, undef, undef, undef, undef, undef, undef, undef, undef, undef, undef, undef, undef, undef, undef], defers := [] }) ?assign ?body ?done ?stop
  case kb =>
    intro W l o o' hl h1 h2 h3
    refine ⟨belowK_b (w := w) (Nat.le_refl _) W l o o' (by omega) h1 h2 h3, ?_, ?_⟩
    · exact (World.putObj_heap_other (by omega))
    · exact (World.putObj_heap_other (by omega))
  case assign =>
    intro l x W K hK
    simp only [enc]
    gi_wp2
    exact hK
  case body =>
    rintro l pre x W ⟨hB, hbel, hs3⟩ hlen
    obtain ⟨pr, hpl, hpg, hg⟩ := piece v hv x.1 x.2
    rcases ha with h0 | ⟨rfl, hcap, hbw, hcell⟩
    · have := x.2; omega
    obtain ⟨bd, hbd, H⟩ := body_raw w W M hgl (w.heap.size + 3) w.heap.size b (off + 2 * x.1) (outsI v pre) pr (gR v x.1)
      #[.slice (some ⟨b, off, none⟩) v.length cap, undef, .slice none 0 0, .pointer (some ⟨w.heap.size, 0, none⟩), .slice (some ⟨b, off + 2 * x.1, none⟩) (min 2 (v.length - 2 * x.1)) (min 2 (v.length - 2 * x.1)), .slice (some ⟨b, off, none⟩) v.length cap, .func (.func 124) #[] #[.pointer (some ⟨w.heap.size + 1, 0, none⟩), .pointer (some ⟨w.heap.size + 1 + 1, 0, none⟩)], .slice (some ⟨b, off + 2 * x.1, none⟩) (min 2 (v.length - 2 * x.1)) (min 2 (v.length - 2 * x.1)), undef, undef, undef, undef, undef, undef, undef, undef, undef, undef, undef, undef, undef, undef, undef, undef, undef, undef, undef, undef]
      rfl rfl (by rw [hpl]; rfl) (by rw [hpl]; have := x.2; omega)
      (fun j u hj => by
        have h1 := hcell _ _ (hpg j u hj)
        rw [← Nat.add_assoc] at h1
        exact (hbel.cell (p := ⟨b, off + 2 * x.1 + j, none⟩) hbw).trans h1)
      hbw (Nat.le_refl _) (by omega) hs3 hB hbel hg (by
        have : (outsI v pre).length = pre.length := by simp [outsI]
        omega) l (4 - 1 - 1)
    have key : ∀ bd', (Go.Proofs.Tryd.f78).body.bind rfBody = some bd' → bd'.wpIn (Fence.wide.inRound l) (4 - 1 - 1) Go.Proofs.Tryd.prog _ _ _ := fun bd' h => by
      rw [hbd] at h
      injection h with h
      subst h
      exact wpIn_mono H (Q' := ownPostK (Keep w.heap.size (w.heap.size + 1) (w.heap.size + 1 + 1)) (fun pre W => BoxI (w.heap.size + 3) w.heap.size W (outsI v pre) ∧ Below w.heap.size w W ∧ w.heap.size + 3 ≤ W.heap.size) (fun _ _ _ => False) (pre ++ [x]) W) (by
        rintro e a' W' ⟨rfl, h1, h2, h3, h4, h5, h6, h7⟩
        have hbW : Below w.heap.size W W' := ⟨h2, h3, h4, h5, fun k hk => h6 k (by omega) (by omega) (by omega)⟩
        refine ⟨?_, ⟨hbW, h6 _ (by omega) (by omega) (by omega), h6 _ (by omega) (by omega) (by omega)⟩, ?_, hbel.trans hbW, by omega⟩
        · exact ⟨h5, h7⟩
        · have e : outsI v (pre ++ [x]) = outsI v pre ++ [gR v x.1] := by simp [outsI]
          rw [e]; exact h1)
    exact key _ rfl
  case done =>
    rintro D ys W hD hS ⟨⟨u, fp, q1, q2, q3, q4⟩, hbel, _⟩ hK
    have hcB := box_cell q1
    have eO : outsI v ys = roundL v := by
      rw [← roundL_eq]
      unfold outsI
      have : ys.map (fun x => gR v x.1) = (ys.map (·.1)).map (gR v) := by rw [List.map_map]; rfl
      rw [this, hS]
    rw [eO] at q2
    gi_wp2
    refine ⟨by simp, .inl ⟨_, _, rfl, run_takeDeferred hK, ?_⟩⟩
    refine ⟨_, results_tmp rfl _ _ _, u, fp, rfl, ?_, fun k hk => by have := q4 k hk; omega, ?_⟩
    · refine q2.keep fun k hk => ?_
      obtain ⟨o, h1, h2⟩ := q2.row k hk
      refine World.putObj_heap_other fun e => ?_
      subst e
      rw [hK] at h1
      injection h1 with h1
      rw [← h1] at h2
      cases h2
    · exact hbel.trans (belowK_b (w := w) (Nat.le_refl _) W D _ _ (by omega) hK rfl rfl)
  case stop =>
    rintro D c pre W _ _ h _
    exact h.elim
theorem roundOK_all : roundOK := by
  intro v hl hv M vs w hM hG hr
  obtain ⟨cs, us, f1, f2, rfl, e, h1, rfl, rfl⟩ := hr
  obtain ⟨rfl, _⟩ := List.append_eq_nil_iff.1 e.symm
  obtain ⟨_, a, cap, ds, fps, rfl, hc, h3, h4⟩ := h1
  obtain ⟨rfl, _⟩ := ints_rep_inv _ _ _ h3
  simp only [Bool.false_eq_true, if_false] at h4
  rw [dl_len] at hc h4 ⊢
  have hcall : ∀ (b off : Nat), (v.length = 0 ∨ (a = some ⟨b, off, none⟩ ∧ v.length ≤ cap ∧ b < w.heap.size ∧ ∀ j u, v[j]? = some u → w.cell? ⟨b, off + j, none⟩ = some (.int .i64 u))) → Calls Go.Proofs.Tryd.prog 78 #[.slice a v.length cap] w fun e w' => ∃ rs us fp, e = .returned (retV us) ∧ rs = [.sl true 1 (dl iD (roundL v))] ∧ RepVs w' (fun b => M b ∨ b ∈ fp) rs us fp ∧ fp.Nodup ∧ (∀ b ∈ fp, w.heap.size ≤ b) ∧ Ext w w' := by
    intro b off h
    refine (round_raw v hv hl w M hG a cap b off h).mono ?_
    rintro e w' ⟨u, fp, rfl, h1, h2, h3⟩
    refine ⟨_, [u], fp, rfl, rfl, ⟨[u], [], fp, [], rfl, by simp, h1.rep, rfl, rfl⟩, ?_, h2, h3⟩
    rcases h1 with ⟨_, _, _, rfl⟩ | ⟨_, _, _, _, _, rfl⟩ <;> simp
  rcases h4.2.2 with h0 | ⟨ad, rfl, hH⟩
  · exact hcall 0 0 (.inl h0)
  · rcases hH with h0 | ⟨hb, _, hcell⟩
    · refine hcall 0 0 (.inl ?_)
      simpa using congrArg List.length h0
    · obtain ⟨b, off, sp⟩ := ad
      cases sp with
      | none =>
        refine hcall b off (.inr ⟨rfl, hc, hb, fun j u hj => ?_⟩)
        have := hcell j (.int .i64 u) (by rw [List.getElem?_map, hj]; rfl)
        rwa [Addr.add_lit] at this
      | some k =>
        by_cases h0 : v.length = 0
        · exact hcall 0 0 (.inl h0)
        · exfalso
          obtain ⟨u, hu⟩ := get_lt (show 0 < v.length by omega)
          have := hcell 0 (.int .i64 u) (by rw [List.getElem?_map, hu]; rfl)
          simp [Addr.add, World.cell?] at this
          split at this <;> cases this
theorem lawLedgerAll (x0 : D) (h0 : Typed offSh x0) : Fn prog 4 [x0] (fun rs => rs = [.bool true]) := by
  obtain ⟨o, rfl, hr⟩ := off_of x0 h0
  exact lawLedger_fn roundOK_all o hr
end Go.Pe.Tryd
