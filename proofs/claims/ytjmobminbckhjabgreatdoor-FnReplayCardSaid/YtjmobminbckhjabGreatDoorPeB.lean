/-
 A layer for walks of Go functions aBR their compact code (part B): data and where they lie,contracts,the operations,the walk of code. Own work,the same in every claim of this set.
-/
import Derived.Test.YtjmobminbckhjabGreatDoorPeA
import Derived.Laws.MakeOwn
import Derived.MapKept
import Derived.Carry
import Derived.Lib.ConvBytes
import Derived.Great.BuildSlice
open Array renaming length_toList->aH, size_append->bJ, toList_map->bM, toList_append->bV, toList_setIfInBounds->bY, map->cB, toList_range->aZ5
open Bool renaming false_eq_true->aT, and_eq_true->aY, or_eq_false_iff->bQ, not_eq_true'->aZ7
open List renaming mem_append->aA, nodup_append->aC, length_append->aD, mem_cons->aE, nodup_cons->aF, nodup_nil->aJ, length_take->aK, mem_cons_of_mem->aL, size_toArray->aO, replicate->aP, mem_append_right->aQ, length_drop->aR, any_eq_true->aS, append_nil->aU, mem_append_left->aV, append_assoc->aW, eq_nil_of_length_eq_zero->aX, nil_append->a6, map_cons->a8, headD_cons->bA, mem_singleton->bB, take_append_drop->bC, take_length->bD, mem_of_getElem?->bE, mem_replicate->bG, take_left->bH, take_of_length_le->bK, length_cons->bL, mem_of_mem_take->bU, take_take->bW, drop_length_add_append->bX, cons_append->bZ, length_set->cA, append_eq_nil_iff->cE, drop_take->cF, drop_drop->cG, mem_iff_getElem?->cH, length_singleton->aZ2, length_replicate->aZ3, map_nil->aZ6, any_eq_false->aZ8, take_append->aZ9, flatMap_nil->bAa, all_eq_true->bAb, map_toArray->bAc, map_append->bAd, length_map->bAe, drop_zero->bAf, take_zero->bAg, mem_range->bAh, length->bAl
open Nat renaming le_refl->aB, sub_self->aM, lt_of_lt_of_le->aZ, min_eq_left->bF, zero_add->bP, add_zero->bR, add_mul->cD, succ_mul->aZ4, add_assoc->bAj, lt_or_ge->bAk
open Option renaming map_eq_some_iff->aI, map_some->bT, map_none->cC
open Go.Result renaming andThen_ok->aN, andThen->a7
open Go.Sem renaming run_bind->aG, run_pure->b9, run->bAi
namespace Go.Pe
open Go Go.RowKit
def D.setN:D->Nat->D->D
 | .cons _ xs,0,y=>.cons y xs
 | .cons x xs,n + 1,y=>.cons x (xs.setN n y)
 | d,_,_=>d
def j8:List Nat->D->D->D
 | [],_,y=>y
 | f :: p,.st xs,y=>match xs.nth f with
  | some x=>.st (xs.setN f (j8 p x y))
  | none=>.st xs
 | _ :: _,d,_=>d
section
variable {w : World} {M : Nat -> Prop}
theorem aNy:∀ (xs:D) (f:Nat) (x y:D),xs.nth f=some x->y.size=x.size->(xs.setN f y).size=xs.size:=by
 intro xs
 induction xs with
 | cons a xs ih1 ih2 =>
  intro f x y hx hy
  cases f with
  | zero=>injection hx with hx; subst hx; simp only [D.setN,D.size,hy]
  | succ f=>simp only [D.setN,D.size,ih2 f x y hx hy]
 | _=>intro f x y hx; cases f<;>cases hx
theorem tD:∀ (xs:D) (f:Nat) (y:D),(xs.setN f y).len=xs.len:=by
 intro xs
 induction xs with
 | cons a xs ih1 ih2=>intro f y; cases f with
  | zero=>rfl
  | succ f=>simp only [D.setN,D.len,ih2]
 | _=>intro f y; cases f<;>rfl
theorem aC3 {es:Nat}:∀ (xs:D) (f:Nat) (y:D),xs.isL es->y.size=es->(xs.setN f y).isL es:=by
 intro xs
 induction xs with
 | cons a xs ih1 ih2=>intro f y h hy; cases f with
  | zero=>exact ⟨hy,h.2⟩
  | succ f=>exact ⟨h.1,ih2 f y h.2 hy⟩
 | nil=>intro f y h _; exact h
 | _=>intro f y h; exact h.elim
theorem t6:∀ (p:List Nat) (z x y:D),gC p z=some x->y.size=x.size->(j8 p z y).size=z.size
 | [],z,x,y,hx,hy=>by injection hx with hx; subst hx; exact hy
 | f :: p,z,x,y,hx,hy=>by
  cases z with
  | st xs =>
   simp only [gC] at hx
   simp only [j8]
   cases hn:xs.nth f with
   | none=>simp [hn] at hx
   | some u =>
    rw [hn] at hx
    simp only [] at hx ⊢
    simp only [D.size]
    exact aNy xs f u _ hn (t6 p u x y hx hy)
  | _=>cases hx
def u7 (w:World) (M:Nat->Prop) (w':World) (M':Nat->Prop) (fp:List Nat):Prop :=
 w.heap.size<=w'.heap.size/\(∀ b,b < w.heap.size->M' b->M b)/\∀ b,b < w.heap.size->(b∈fp\/¬ M b)->w'.heap[b]?=w.heap[b]?
theorem u7.rep {w':World} {M':Nat->Prop} {fp:List Nat} {d:D} {cs:List Value} (h:u7 w M w' M' fp) (hr:d.rep w M cs fp):d.rep w' M' cs fp :=
 eR h.1 h.2.1 d cs fp h.2.2 hr
theorem u7.mono {w':World} {M':Nat->Prop} {fp fq:List Nat} (h:u7 w M w' M' fp) (hs:∀ b∈fq,b∈fp):u7 w M w' M' fq :=
 ⟨h.1,h.2.1,fun b hb hx=>h.2.2 b hb (hx.imp (hs b) id)⟩
theorem aAK:∀ (xs:D) (cs:List Value) (fp:List Nat) (f:Nat) (x:D),xs.rep w M cs fp->xs.nth f=some x ->
  ∃ f1 f0 f2,fp=f1 ++ f0 ++ f2/\x.rep w M ((cs.drop (xs.pre f)).take x.size) f0/\xs.pre f + x.size<=cs.length /\
   ∀ (w':World) (M':Nat->Prop) (y:D) (ds:List Value) (fy:List Nat),u7 w M w' M' (f1 ++ f2)->y.rep w' M' ds fy->y.size=x.size ->
    (xs.setN f y).rep w' M' (cs.take (xs.pre f) ++ ds ++ cs.drop (xs.pre f + x.size)) (f1 ++ fy ++ f2):=by
 intro xs
 induction xs with
 | cons a xs ih1 ih2 =>
  intro cs fp f x h hx
  obtain ⟨c1,c2,g1,g2,rfl,rfl,h1,h2⟩:=h
  have l1:=dP _ _ _ h1
  cases f with
  | zero =>
   injection hx with hx
   subst hx
   refine ⟨[],g1,g2,by simp,?_,by simp [D.pre,l1],?_⟩
   ·simp only [D.pre,bAf]; rw [<- l1,bH]; exact h1
   ·intro w' M' y ds fy hk hy hs
    refine ⟨ds,c2,fy,g2,?_,by simp,hy,(hk.mono (by simp)).rep h2⟩
    simp only [D.pre,bAg,a6,bP]
    rw [<- l1,List.drop_left]
  | succ f =>
   obtain ⟨f1,f0,f2,rfl,hr,hl,hset⟩:=ih2 c2 g2 f x h2 hx
   refine ⟨g1 ++ f1,f0,f2,by simp,?_,by simp only [D.pre,aD]; omega,?_⟩
   ·simp only [D.pre]
    rw [show a.size + xs.pre f=c1.length + xs.pre f by rw [l1],bX]; exact hr
   ·intro w' M' y ds fy hk hy hs
    refine ⟨c1,c2.take (xs.pre f) ++ ds ++ c2.drop (xs.pre f + x.size),g1,f1 ++ fy ++ f2,?_,by simp,(hk.mono (fun b hb=>by simp [hb])).rep h1,hset w' M' y ds fy (hk.mono (fun b hb=>by
     rw [aA] at hb; rcases hb with hb|hb<;>simp [hb])) hy hs⟩
    simp only [D.pre]
    rw [show a.size + xs.pre f=c1.length + xs.pre f by rw [l1],List.take_length_add_append,show c1.length + xs.pre f + x.size=c1.length + (xs.pre f + x.size) by omega,bX]
    simp
 | _=>intro cs fp f x h hx; cases f<;>cases hx
theorem aNO {α:Type} (cs ds:List α) (A d x u:Nat) (h:d + x<=u) :
  cs.take A ++ (((cs.drop A).take u).take d ++ ds ++ ((cs.drop A).take u).drop (d + x)) ++ cs.drop (A + u)=cs.take (A + d) ++ ds ++ cs.drop (A + d + x):=by
 have h1:((cs.drop A).take u).take d=(cs.drop A).take d:=by rw [bW,bF (by omega)]
 have h2:((cs.drop A).take u).drop (d + x) ++ cs.drop (A + u)=cs.drop (A + d + x):=by
  rw [cF,cG]
  have:cs.drop (A + u)=(cs.drop (A + (d + x))).drop (u - (d + x)):=by rw [cG]; congr 1; omega
  rw [this,bC,bAj]
 rw [h1,List.take_add,aW,aW,h2]
 simp
theorem tY:∀ (p:List Nat) (z:D) (cs:List Value) (fp:List Nat) (x:D),z.rep w M cs fp->gC p z=some x ->
  ∃ f1 f0 f2,fp=f1 ++ f0 ++ f2/\x.rep w M ((cs.drop (fJ p z)).take x.size) f0/\fJ p z + x.size<=cs.length /\
   ∀ (w':World) (M':Nat->Prop) (y:D) (ds:List Value) (fy:List Nat),u7 w M w' M' (f1 ++ f2)->y.rep w' M' ds fy->y.size=x.size ->
    (j8 p z y).rep w' M' (cs.take (fJ p z) ++ ds ++ cs.drop (fJ p z + x.size)) (f1 ++ fy ++ f2)
 | [],z,cs,fp,x,h,hx=>by
  injection hx with hx
  subst hx
  have l:=dP _ _ _ h
  refine ⟨[],fp,[],by simp,?_,by simp [fJ,l],?_⟩
  ·simp only [fJ,bAf]; rw [<- l,bD]; exact h
  ·intro w' M' y ds fy hk hy hs
   simp only [fJ,j8,bAg,a6,bP,aU]
   rw [<- l,List.drop_length,aU]
   exact hy
 | f :: p,z,cs,fp,x,h,hx=>by
  cases z with
  | st xs =>
   simp only [gC] at hx
   cases hn:xs.nth f with
   | none=>rw [hn] at hx; cases hx
   | some u =>
    rw [hn] at hx
    simp only [] at hx
    obtain ⟨f1,f0,f2,rfl,hr,hl,hset⟩:=aAK xs cs fp f u h hn
    obtain ⟨e1,e0,e2,rfl,hr',hl',hset'⟩:=tY p u _ f0 x hr hx
    have hlen:((cs.drop (xs.pre f)).take u.size).length=u.size:=by simp; omega
    rw [hlen] at hl'
    have hoff:fJ (f :: p) (.st xs)=xs.pre f + fJ p u:=by simp only [fJ,hn]
    refine ⟨f1 ++ e1,e0,e2 ++ f2,by simp,?_,by rw [hoff]; omega,?_⟩
    ·rw [hoff]
     rw [cF,cG,bW,bF (by omega)] at hr'
     exact hr'
    ·intro w' M' y ds fy hk hy hs
     have k1:=hset' w' M' y ds fy (hk.mono (fun b hb=>by rw [aA] at hb; rcases hb with hb|hb<;>simp [hb])) hy hs
     have k2:=hset w' M' _ _ _ (hk.mono (fun b hb=>by rw [aA] at hb; rcases hb with hb|hb<;>simp [hb])) k1 (t6 p u x y hx hs)
     have e:j8 (f :: p) (.st xs) y=.st (xs.setN f (j8 p u y)):=by simp only [j8,hn]
     rw [e]
     show D.rep w' M' _ _ _
     simp only [D.rep]
     rw [hoff]
     have e2:f1 ++ e1 ++ fy ++ (e2 ++ f2)=f1 ++ (e1 ++ fy ++ e2) ++ f2:=by simp
     rw [e2]
     rw [aNO _ _ _ _ _ _ (by omega)] at k2
     exact k2
  | _=>cases hx
end
theorem dG {C:List OC} {b:Nat}:b∈fR C↔∃ (r:Nat) (oc:OC),C[r]?=some oc/\b∈oc.fp:=by
 unfold fR
 rw [List.mem_flatMap]
 constructor
 ·rintro ⟨oc,h1,h2⟩
  obtain ⟨r,hr⟩:=cH.1 h1
  exact ⟨r,oc,hr,h2⟩
 ·rintro ⟨r,oc,h1,h2⟩
  exact ⟨oc,bE h1,h2⟩
theorem eE {C:List OC}:(fR C).Nodup↔(∀ (r:Nat) (oc:OC),C[r]?=some oc->oc.fp.Nodup) /\
  (∀ (r s:Nat) (oc od:OC),r≠s->C[r]?=some oc->C[s]?=some od->∀ b,b∈oc.fp->b∈od.fp->False):=by
 induction C with
 | nil=>simp [fR]
 | cons x C ih =>
  have e:fR (x :: C)=x.fp ++ fR C:=rfl
  rw [e,aC,ih]
  constructor
  ·rintro ⟨h1,⟨h2,h3⟩,h4⟩
   refine ⟨fun r oc hr=>?_,fun r s oc od hne hr hs b hb hb'=>?_⟩
   ·cases r with
    | zero=>injection hr with hr; subst hr; exact h1
    | succ r=>exact h2 r oc hr
   ·cases r with
    | zero =>
     injection hr with hr
     subst hr
     cases s with
     | zero=>exact hne rfl
     | succ s=>exact h4 b hb b (dG.2 ⟨s,od,hs,hb'⟩) rfl
    | succ r =>
     cases s with
     | zero=>injection hs with hs; subst hs; exact h4 b hb' b (dG.2 ⟨r,oc,hr,hb⟩) rfl
     | succ s=>exact h3 r s oc od (fun e=>hne (by rw [e])) hr hs b hb hb'
  ·rintro ⟨h1,h2⟩
   refine ⟨h1 0 x rfl,⟨fun r oc hr=>h1 (r + 1) oc hr,fun r s oc od hne hr hs=>h2 (r + 1) (s + 1) oc od (by omega) hr hs⟩,fun a ha b hb hab=>?_⟩
   subst hab
   obtain ⟨s,od,hs,hb'⟩:=dG.1 hb
   exact h2 0 (s + 1) x od (by omega) rfl hs a ha hb'
structure Went (w w':World) (X:Nat->Prop):Prop where
 os:w'.os=w.os
 tape:w'.tape=w.tape
 output:w'.output=w.output
 size:w.heap.size<=w'.heap.size
 kept:∀ b,b < w.heap.size->¬ X b->w'.heap[b]?=w.heap[b]?
theorem aZH {w w':World} (h:mO w w') (X:Nat->Prop):Went w w' X:=⟨h.os,h.tape,h.output,h.size,fun b hb _=>h.block b hb⟩
section
variable {c : Ctx} {o o' : List Ob} {C C' : List OC} {w w' : World}
theorem aGl (hmem:∀ b∈fR C',(b∈fR C\/w.heap.size<=b)/\b < w'.heap.size) (b:Nat) (hb:b < w.heap.size) (h:Ms c C' b):Ms c C b:=by
 rcases h with h|h
 ·exact .inl h
 ·rcases (hmem b h).1 with h|h
  ·exact .inr h
  ·omega
theorem RelW.upd {X:Nat->Prop} (hw:RelW c o C w) (hg:Went w w' X) (hX:∀ b,X b->b∈fR C) (hlen:o'.length=C'.length)
  (hob:∀ (r:Nat) (ob:Ob) (oc:OC),o'[r]?=some ob->C'[r]?=some oc->(o[r]?=some ob/\C[r]?=some oc/\∀ b∈oc.fp,¬ X b)\/iH w' (Ms c C') ob oc)
  (hnd:(fR C').Nodup) (hmem:∀ b∈fR C',(b∈fR C\/w.heap.size<=b)/\b < w'.heap.size)
  (htag:∀ (q r:Nat) (v:Value),o'[q]?=some (.tag r v)->o[q]?=some (.tag r v)\/∃ oc,C'[r]?=some oc/\oc.v=v)
  (hval:∀ (q r:Nat) (v:Value) (oc:OC),o'[q]?=some (.tag r v)->C[r]?=some oc->∃ oc',C'[r]?=some oc'/\oc'.v=oc.v):RelW c o' C' w' where
 len:=hlen
 tags:=fun q r v hq=>by
  rcases htag q r v hq with h|h
  ·obtain ⟨oc,h1,h2⟩:=hw.tags q r v h
   obtain ⟨oc',h3,h4⟩:=hval q r v oc hq h1
   exact ⟨oc',h3,h4.trans h2⟩
  ·exact h
 obs:=fun r ob oc h1 h2=>by
  rcases hob r ob oc h1 h2 with ⟨h3,h4,h5⟩|h
  ·have h6:=hw.obs r ob oc h3 h4
   have hk:∀ (fp:List Nat),(∀ b∈fp,¬ X b)->∀ b,b < w.heap.size->(b∈fp\/¬ Ms c C b)->w'.heap[b]?=w.heap[b]?:=by
    intro fp hfp b hb hx
    refine hg.kept b hb fun hXb=>?_
    rcases hx with hx|hx
    ·exact hfp b hx hXb
    ·exact hx (.inr (hX b hXb))
   cases ob with
   | dead=>exact h6
   | tag _ _=>exact h6
   | val x =>
    obtain ⟨cs,h7,h8⟩:=h6
    exact ⟨cs,eR hg.size (aGl hmem) _ _ _ (hk _ h5) h7,h8⟩
   | box x =>
    obtain ⟨cs,fps,h7,h8,h9⟩:=h6
    refine ⟨cs,fps,h7.frame (hg.kept _ h7.lt (h5 _ (by rw [h9]; simp))),eR hg.size (aGl hmem) _ _ _ (hk _ (fun b hb=>h5 b (by rw [h9]; simp [hb]))) h8,h9⟩
   | mp kvs =>
    obtain ⟨es,cl,h7,h8,h9,iY⟩:=h6
    exact ⟨es,cl,(hg.kept _ (aGT h7) (h5 _ (by rw [iY]; simp))).trans h7,h8,h9,iY⟩
  ·exact h
 nodup:=hnd
 lt:=fun b hb=>(hmem b hb).2
 apart:=fun b hb h=>by
  rcases (hmem b hb).1 with h1|h1
  ·exact hw.apart b h1 h
  ·have:=hw.m0 b h; have:=hw.size; omega
 mine:=fun b hb=>by
  rcases (hmem b hb).1 with h1|h1
  ·exact hw.mine b h1
  ·left; have:=hw.size; omega
 os:=hg.os.trans hw.os
 tape:=hg.tape.trans hw.tape
 output:=hg.output.trans hw.output
 size:=Nat.le_trans hw.size hg.size
 kept:=fun b hb hn=>by
  have h1:b ∉ fR C:=fun h=>by
   rcases hw.mine b h with h2|h2
   ·omega
   ·exact hn h2
  rw [hg.kept b (aZ hb hw.size) (fun h=>h1 (hX b h))]
  exact hw.kept b hb hn
 m0:=hw.m0
 glob:=hw.glob.frame (fun b hb h=>aGl hmem b hb h) hg.size (fun b hb hn=>hg.kept b hb fun hXb=>hn (.inr (hX b hXb)))
def sO (r:Nat):List Ob->Bool
 | []=>true
 | .tag q _ :: o=>!(q == r) && sO r o
 | _ :: o=>sO r o
theorem aBX {r:Nat}:∀ {o:List Ob} {q r':Nat} {v:Value},sO r o=true->o[q]?=some (.tag r' v)->r'≠r
 | [],q,r',v,_,h=>by simp at h
 | ob :: o,0,r',v,hn,h=>by
  simp only [List.getElem?_cons_zero,Option.some.injEq] at h
  subst h
  simp only [sO,aY,aZ7,beq_eq_false_iff_ne] at hn
  exact hn.1
 | ob :: o,q + 1,r',v,hn,h=>by
  refine aBX (o:=o) (q:=q) ?_ (by simpa using h)
  cases ob<;>simp only [sO,aY] at hn<;>first|exact hn|exact hn.2
def aIX (r:Nat):Ob->Ob
 | .tag q v=>if q=r then .dead else .tag q v
 | ob=>ob
def unT (r:Nat):List Ob->List Ob
 | []=>[]
 | ob :: o=>aIX r ob :: unT r o
theorem xK {r:Nat}:∀ (o:List Ob) (j:Nat),(unT r o)[j]?=(o[j]?).map (aIX r)
 | [],j=>by simp [unT]
 | ob :: o,0=>by simp [unT]
 | ob :: o,j + 1=>by simpa [unT] using xK o j
theorem aGr {r:Nat}:∀ o:List Ob,(unT r o).length=o.length
 | []=>rfl
 | ob :: o=>by simp [unT,aGr o]
theorem aP2 {r q:Nat} {v:Value}:∀ {ob:Ob},aIX r ob=.tag q v->ob=.tag q v/\q≠r:=by
 intro ob h
 cases ob with
 | tag q' v' =>
  simp only [aIX] at h
  split at h
  ·cases h
  ·rename_i hne
   injection h with h1 h2
   subst h1 h2
   exact ⟨rfl,hne⟩
 | _=>cases h
theorem aGf {r:Nat}:∀ o:List Ob,sO r (unT r o)=true
 | []=>rfl
 | ob :: o=>by
  have ih:=aGf (r:=r) o
  cases ob with
  | tag q v =>
   simp only [unT,aIX]
   split
   ·exact ih
   ·rename_i hne
    simp only [sO,aY,aZ7,beq_eq_false_iff_ne]
    exact ⟨hne,ih⟩
  | _=>exact ih
def k0 (r:Nat):SV->Bool
 | .own q=>q == r
 | .ptr q _ _=>q == r
 | .el q _ _ _ _=>q == r
 | .vw q=>q == r
 | .win q _ _=>q == r
 | _=>false
def gQ (r:Nat):SV->Bool
 | .tup xs=>xs.any (k0 r)
 | s=>k0 r s
def gP (r:Nat):SV->Bool
 | .tup xs=>xs.any fun s=>match s with
  | .vw q=>q == r
  | _=>false
 | .vw q=>q == r
 | _=>false
def nY (f:SV->Bool):jP->jP
 | []=>[]
 |(t,s) :: e=>(t,if f s then .any else s) :: nY f e
theorem lK (f:SV->Bool) (hf:f .any=false):∀ (e:jP) (t:Nat),look (nY f e) t=if f (look e t) then .any else look e t
 | [],t=>by simp [nY,look,hf]
 |(k,s) :: e,t=>by
  simp only [nY,look]
  by_cases h:k=t
  ·simp only [h,if_true]
  ·simp only [h,if_false]; exact lK f hf e t
def gX (w:World) (c:Ctx) (C:List OC) (e:jP) (a:Act):Prop:=∀ t,dX w (Ms c C) C (look e t) (a.tmps.getD t Go.undef)
theorem iG.upd {X:Nat->Prop} {s:SV} {v:Value} (hg:Went w w' X) (hX:∀ b,X b->b∈fR C) (hmem:∀ b∈fR C',(b∈fR C\/w.heap.size<=b)/\b < w'.heap.size)
  (hC:∀ (r:Nat) (oc:OC),k0 r s=true->C[r]?=some oc->∃ oc',C'[r]?=some oc'/\oc'.v=oc.v/\oc'.blk=oc.blk)
  (hvw:∀ (r:Nat) (oc oc':OC),s=.vw r->C[r]?=some oc->oc.blk∈oc.fp->C'[r]?=some oc'->oc'.blk∈oc'.fp/\¬ X oc.blk) (h:iG w (Ms c C) C s v):iG w' (Ms c C') C' s v:=by
 cases s with
 | any=>trivial
 | undef=>exact h
 | nil=>exact h
 | tup xs=>exact h.elim
 | d x =>
  obtain ⟨cs,h1,h2⟩:=h
  refine ⟨cs,eR hg.size (aGl hmem) _ _ _ (fun b hb hx=>hg.kept b hb fun hXb=>?_) h1,h2⟩
  rcases hx with hx|hx
  ·cases hx
  ·exact hx (.inr (hX b hXb))
 | own r =>
  obtain ⟨oc,h1,h2⟩:=h
  obtain ⟨oc',h3,h4,_⟩:=hC r oc (by simp [k0]) h1
  exact ⟨oc',h3,by rw [h4]; exact h2⟩
 | ptr r off p =>
  obtain ⟨oc,h1,h2⟩:=h
  obtain ⟨oc',h3,_,h4⟩:=hC r oc (by simp [k0]) h1
  exact ⟨oc',h3,by rw [h4]; exact h2⟩
 | el r es i off p =>
  obtain ⟨oc,g,n,cp,h1,h2,h5⟩:=h
  obtain ⟨oc',h3,h4,_⟩:=hC r oc (by simp [k0]) h1
  exact ⟨oc',g,n,cp,h3,by rw [h4]; exact h2,h5⟩
 | win r es lo =>
  obtain ⟨oc,g,n,cp,h1,h2,h5⟩:=h
  obtain ⟨oc',h3,h4,_⟩:=hC r oc (by simp [k0]) h1
  exact ⟨oc',g,n,cp,h3,by rw [h4]; exact h2,h5⟩
 | vw r =>
  obtain ⟨oc,cs,h1,h2,h3,h4⟩:=h
  obtain ⟨oc',h5,_,h6⟩:=hC r oc (by simp [k0]) h1
  obtain ⟨h7,h8⟩:=hvw r oc oc' rfl h1 h2 h5
  exact ⟨oc',cs,h5,h7,by rw [h6]; exact h3.frame (hg.kept _ h3.lt h8),h4⟩
def gN:List Nat->jP->jP
 | [],e=>e
 | r :: rs,e=>gN rs (nY (gQ r) e)
theorem nG:∀ (ks:List Nat) (e:jP) (t:Nat),look (gN ks e) t=if ks.any (fun r=>gQ r (look e t)) then .any else look e t
 | [],e,t=>by simp [gN]
 | r :: rs,e,t=>by
  simp only [gN]
  rw [nG rs,lK (gQ r) rfl]
  by_cases h:gQ r (look e t)=true
  ·simp only [h,if_true,List.any_cons,Bool.true_or]
   split<;>rfl
  ·simp [h]
theorem gX.upd {X:Nat->Prop} {e e':jP} {a:Act} (f:SV->Bool) (hg:Went w w' X) (hX:∀ b,X b->b∈fR C) (hmem:∀ b∈fR C',(b∈fR C\/w.heap.size<=b)/\b < w'.heap.size)
  (hC:∀ (s:SV) (r:Nat) (oc:OC),f s=false->gQ r s=true->C[r]?=some oc->∃ oc',C'[r]?=some oc'/\oc'.v=oc.v/\oc'.blk=oc.blk)
  (hvw:∀ (s:SV) (r:Nat) (oc oc':OC),f s=false->gP r s=true->C[r]?=some oc->oc.blk∈oc.fp->C'[r]?=some oc'->oc'.blk∈oc'.fp/\¬ X oc.blk)
  (he:∀ t,look e' t=if f (look e t) then .any else look e t) (h:gX w c C e a):gX w' c C' e' a:=by
 intro t
 rw [he]
 have h:=h t
 split
 ·trivial
 ·rename_i hs
  have hs:f (look e t)=false:=by simpa using hs
  generalize look e t=s at *
  have one:(∀ xs,s≠.tup xs)->dX w' (Ms c C') C' s (a.tmps.getD t Go.undef):=by
   intro hn
   have hA:∀ r,gQ r s=k0 r s:=by intro r; cases s<;>first|rfl|exact absurd rfl (hn _)
   refine uB (iG.upd hg hX hmem (fun r oc hr=>hC s r oc hs (by rw [hA]; exact hr)) (fun r oc oc' hsr=>hvw s r oc oc' hs (by rw [hsr]; simp [gP])) ?_)
   cases s<;>first|exact h|exact absurd rfl (hn _)
  cases s with
  | tup xs =>
   obtain ⟨vs,h1,h2,h3⟩:=h
   refine ⟨vs,h1,h2,fun i s u hsi hu=>iG.upd hg hX hmem (fun r oc hr=>hC (.tup xs) r oc hs ?_) (fun r oc oc' hsr=>hvw (.tup xs) r oc oc' hs ?_) (h3 i s u hsi hu)⟩
   ·exact aS.2 ⟨s,bE hsi,hr⟩
   ·exact aS.2 ⟨s,bE hsi,by rw [hsr]; simp⟩
  | _=>exact one (fun xs h=>by cases h)
end
def nR (o:List Ob) (s:SV) (K:D->List Ob->List Nat->Prop):Prop :=
 match s with
 | .d x=>K x o []
 | .nil=>∃ es,K (.sl true es .nil) o []
 | .own r=>∃ x,o[r]?=some (.val x)/\K x (o.set r .dead) [r]
 | .vw r=>∃ xs,o[r]?=some (.box (.st xs))/\K (.st xs) (o.set r .dead) [r]
 | _=>False
structure Loose (o:List Ob) (C:List OC) (o1:List Ob) (C1:List OC) (ks:List Nat) (L:List Nat):Prop where
 len:o1.length=C1.length
 clen:C1.length=C.length
 obs:∀ (j:Nat) (ob:Ob) (oc:OC),o1[j]?=some ob->C1[j]?=some oc->(o[j]?=some ob/\C[j]?=some oc/\j ∉ ks)\/(ob=.dead/\oc.fp=[]/\j∈ks)
 same:∀ (j:Nat) (oc:OC),C[j]?=some oc->∃ oc',C1[j]?=some oc'/\oc'.v=oc.v/\oc'.blk=oc.blk/\(j ∉ ks->oc'=oc)
 fps:∀ b∈fR C1,b∈fR C/\b ∉ L
 nodup:(fR C1).Nodup
 lnodup:L.Nodup
 lsub:∀ b∈L,b∈fR C
section
variable {c : Ctx} {o o1 : List Ob} {C C1 : List OC} {w : World} {ks L : List Nat}
theorem Loose.refl (hw:RelW c o C w):Loose o C o C [] [] where
 len:=hw.len
 clen:=rfl
 obs:=fun j ob oc h1 h2=>.inl ⟨h1,h2,by simp⟩
 same:=fun j oc h=>⟨oc,h,rfl,rfl,fun _=>rfl⟩
 fps:=fun b hb=>⟨hb,by simp⟩
 nodup:=hw.nodup
 lnodup:=aJ
 lsub:=fun b hb=>by cases hb
theorem Loose.tag (hl:Loose o C o1 C1 ks L) {q r:Nat} {v:Value} (h:o1[q]?=some (.tag r v)):o[q]?=some (.tag r v):=by
 have hq:=c6 h
 rcases hl.obs q _ (C1[q]'(by rw [<- hl.len]; exact hq)) h (List.getElem?_eq_getElem _) with ⟨h1,_⟩|⟨h1,_⟩
 ·exact h1
 ·cases h1
theorem Loose.val (hl:Loose o C o1 C1 ks L) {r:Nat} {oc:OC} (h:C[r]?=some oc):∃ oc',C1[r]?=some oc'/\oc'.v=oc.v:=by
 obtain ⟨oc',h1,h2,_⟩:=hl.same r oc h
 exact ⟨oc',h1,h2⟩
theorem RelW.unT (r:Nat) (hw:RelW c o C w):RelW c (Go.Pe.unT r o) C w :=
 { hw with
  len:=by rw [aGr]; exact hw.len
  obs:=fun j ob oc h1 h2=>by
   rw [xK] at h1
   cases h3:o[j]? with
   | none=>rw [h3] at h1; cases h1
   | some ob0 =>
    rw [h3] at h1
    injection h1 with h1
    have h4:=hw.obs j ob0 oc h3 h2
    subst h1
    cases ob0 with
    | tag q v =>
     simp only [aIX]
     split
     ·exact h4
     ·exact h4
    | _=>exact h4
  tags:=fun q s v h=>by
   rw [xK] at h
   cases h3:o[q]? with
   | none=>rw [h3] at h; cases h
   | some ob0 =>
    rw [h3] at h
    injection h with h
    obtain ⟨h4,_⟩:=aP2 h
    subst h4
    exact hw.tags q s v h3 }
theorem Loose.unT (r:Nat) (hl:Loose o C o1 C1 ks L):Loose (Go.Pe.unT r o) C (Go.Pe.unT r o1) C1 ks L :=
 { hl with
  len:=by rw [aGr]; exact hl.len
  obs:=fun j ob oc h1 h2=>by
   rw [xK] at h1
   cases h3:o1[j]? with
   | none=>rw [h3] at h1; cases h1
   | some ob0 =>
    rw [h3] at h1
    injection h1 with h1
    rcases hl.obs j ob0 oc h3 h2 with ⟨a1,a2,a3⟩|⟨a1,a2,a3⟩
    ·exact .inl ⟨by rw [xK,a1]; exact congrArg some h1,a2,a3⟩
    ·subst a1
     exact .inr ⟨h1.symm,a2,a3⟩ }
theorem Loose.drop (hl:Loose o C o1 C1 ks L) {r:Nat} {ob:Ob} {oc:OC} (h1:o1[r]?=some ob) (h2:C1[r]?=some oc) :
  Loose o C (o1.set r .dead) (C1.set r { oc with fp:=[] }) (ks ++ [r]) (L ++ oc.fp):=by
 have hr1:=c6 h1
 have hr2:=c6 h2
 have hnd:=eE.1 hl.nodup
 have hmem:∀ b∈fR (C1.set r { oc with fp:=[] }),b∈fR C1/\b ∉ oc.fp:=by
  intro b hb
  obtain ⟨j,od,hj,hb'⟩:=dG.1 hb
  rw [List.getElem?_set] at hj
  by_cases e:r=j
  ·rw [if_pos e,if_pos (by omega)] at hj
   injection hj with hj
   subst hj
   cases hb'
  ·rw [if_neg e] at hj
   exact ⟨dG.2 ⟨j,od,hj,hb'⟩,fun hb2=>hnd.2 r j oc od e h2 hj b hb2 hb'⟩
 refine ⟨by simp [hl.len],by simp [hl.clen],?_,?_,?_,?_,?_,?_⟩
 ·intro j ob' oc' hj1 hj2
  rw [List.getElem?_set] at hj1 hj2
  by_cases e:r=j
  ·rw [if_pos e,if_pos (by omega)] at hj1 hj2
   injection hj1 with hj1
   injection hj2 with hj2
   subst hj1 hj2 e
   exact .inr ⟨rfl,rfl,by simp⟩
  ·rw [if_neg e] at hj1 hj2
   rcases hl.obs j ob' oc' hj1 hj2 with ⟨a1,a2,a3⟩|⟨a1,a2,a3⟩
   ·exact .inl ⟨a1,a2,by simp [a3]; omega⟩
   ·exact .inr ⟨a1,a2,by simp [a3]⟩
 ·intro j od hj
  obtain ⟨od',a1,a2,a3,a4⟩:=hl.same j od hj
  by_cases e:r=j
  ·subst e
   rw [h2] at a1
   injection a1 with a1
   subst a1
   exact ⟨{ oc with fp:=[] },by rw [List.getElem?_set]; simp [hr2],a2,a3,fun h=>absurd (by simp) h⟩
  ·exact ⟨od',by rw [List.getElem?_set,if_neg e]; exact a1,a2,a3,fun h=>a4 (fun h'=>h (by simp [h']))⟩
 ·intro b hb
  obtain ⟨a1,a2⟩:=hmem b hb
  obtain ⟨a3,a4⟩:=hl.fps b a1
  exact ⟨a3,by simp [a4,a2]⟩
 ·refine eE.2 ⟨fun j od hj=>?_,fun j s od oe hne hj hs b hb hb'=>?_⟩
  ·rw [List.getElem?_set] at hj
   by_cases e:r=j
   ·rw [if_pos e,if_pos (by omega)] at hj; injection hj with hj; subst hj; exact aJ
   ·rw [if_neg e] at hj; exact hnd.1 j od hj
  ·rw [List.getElem?_set] at hj hs
   by_cases e:r=j
   ·rw [if_pos e,if_pos (by omega)] at hj; injection hj with hj; subst hj; cases hb
   ·rw [if_neg e] at hj
    by_cases e':r=s
    ·rw [if_pos e',if_pos (by omega)] at hs; injection hs with hs; subst hs; cases hb'
    ·rw [if_neg e'] at hs; exact hnd.2 j s od oe hne hj hs b hb hb'
 ·refine aC.2 ⟨hl.lnodup,hnd.1 r oc h2,fun a ha b hb hab=>?_⟩
  subst hab
  exact (hl.fps a (dG.2 ⟨r,oc,h2,hb⟩)).2 ha
 ·intro b hb
  rcases aA.1 hb with hb|hb
  ·exact hl.lsub b hb
  ·exact (hl.fps b (dG.2 ⟨r,oc,h2,hb⟩)).1
theorem pP {s:SV} {v:Value} {K:D->List Ob->List Nat->Prop} (hw:RelW c o C w) (hl:Loose o C o1 C1 ks L) (hv:dX w (Ms c C) C s v) (h:nR o1 s K) :
  ∃ x o2 C2 kr cs fp,K x o2 kr/\v=iU x cs/\x.rep w (Ms c C) cs fp/\Loose o C o2 C2 (ks ++ kr) (L ++ fp):=by
 cases s with
 | d x =>
  obtain ⟨cs,h1,h2⟩:=hv
  exact ⟨x,o1,C1,[],cs,[],h,h2,h1,by simpa using hl⟩
 | nil =>
  obtain ⟨es,h⟩:=h
  have hv:v=.slice none 0 0:=hv
  exact ⟨.sl true es .nil,o1,C1,[],[.slice none 0 0],[],h,hv,⟨trivial,none,0,[],[],rfl,aB _,⟨rfl,rfl⟩,by simp⟩,by simpa using hl⟩
 | own r =>
  obtain ⟨x,h1,h⟩:=h
  obtain ⟨oc,h2,rfl⟩:=hv
  obtain ⟨oc1,h3,_,_,h4⟩:=hl.same r oc h2
  rcases hl.obs r _ oc1 h1 h3 with ⟨h5,h6,h7⟩|⟨h5,_⟩
  ·have:=h4 h7
   subst this
   obtain ⟨cs,h8,h9⟩:=hw.obs r _ oc1 h5 h6
   exact ⟨x,_,_,[r],cs,oc1.fp,h,h9,h8,hl.drop h1 h3⟩
  ·cases h5
 | vw r =>
  obtain ⟨xs,h1,h⟩:=h
  obtain ⟨oc,cs,h2,_,hrow,rfl⟩:=hv
  obtain ⟨oc1,h3,_,_,h4⟩:=hl.same r oc h2
  rcases hl.obs r _ oc1 h1 h3 with ⟨h5,h6,h7⟩|⟨h5,_⟩
  ·have:=h4 h7
   subst this
   obtain ⟨cs',fps,h8,h9,iY⟩:=hw.obs r _ oc1 h5 h6
   have:=hrow.eq h8
   subst this
   have hd:=hl.drop h1 h3
   refine ⟨.st xs,_,C1.set r { oc1 with fp:=[] },[r],cs,fps,h,rfl,h9,?_⟩
   have hnd:=(aC.1 hd.lnodup).2.1
   rw [iY] at hd
   refine ⟨hd.len,hd.clen,hd.obs,hd.same,fun b hb=>⟨(hd.fps b hb).1,fun hb'=>(hd.fps b hb).2 ?_⟩,hd.nodup,?_,fun b hb=>hd.lsub b ?_⟩
   ·simp only [aA,aE] at hb' ⊢
    exact hb'.imp id .inr
   ·have:=hd.lnodup
    rw [aC] at this ⊢
    exact ⟨this.1,(aF.1 this.2.1).2,fun a ha b hb=>this.2.2 a ha b (aL _ hb)⟩
   ·simp only [aA,aE] at hb ⊢
    exact hb.imp id .inr
  ·cases h5
 | _=>exact h.elim
theorem Loose.envR {C':List OC} {w':World} {X:Nat->Prop} {e:jP} {a:Act} (hl:Loose o C o1 C1 ks L) (hg:Went w w' X) (hX:∀ b,X b->b∈fR C) (hmem:∀ b∈fR C',(b∈fR C\/w.heap.size<=b)/\b < w'.heap.size)
  (hC:∀ (j:Nat) (oc:OC),C1[j]?=some oc->∃ oc',C'[j]?=some oc'/\oc'.v=oc.v/\oc'.blk=oc.blk)
  (fv:SV->Bool)
  (hvw:∀ (s:SV) (r:Nat) (oc oc':OC),fv s=false->gP r s=true->r ∉ ks->C[r]?=some oc->oc.blk∈oc.fp->C'[r]?=some oc'->oc'.blk∈oc'.fp/\¬ X oc.blk)
  {e':jP} (he:∀ t,look e' t=if fv (look e t) || ks.any (fun r=>gQ r (look e t)) then .any else look e t) (h:gX w c C e a):gX w' c C' e' a:=by
 refine gX.upd (f:=fun s=>fv s || ks.any (fun r=>gQ r s)) hg hX hmem ?_ ?_ he h
 ·intro s r oc _ _ h1
  obtain ⟨oc1,h2,h3,h4,_⟩:=hl.same r oc h1
  obtain ⟨oc',h5,h6,h7⟩:=hC r oc1 h2
  exact ⟨oc',h5,h6.trans h3,h7.trans h4⟩
 ·intro s r oc oc' hf hr h1 h2 h3
  simp only [bQ] at hf
  refine hvw s r oc oc' hf.1 hr (fun hk=>?_) h1 h2 h3
  have h4:=aZ8.1 hf.2 r hk
  refine h4 ?_
  cases s with
  | tup xs =>
   simp only [gP,aS] at hr
   obtain ⟨s,hs,hr⟩:=hr
   simp only [gQ,aS]
   refine ⟨s,hs,?_⟩
   cases s<;>first|exact hr|cases hr
  | vw q=>exact hr
  | _=>cases hr
end
section
variable {c : Ctx} {o o1 : List Ob} {C C1 : List OC} {w w' : World} {ks L : List Nat}
theorem Loose.new (hw:RelW c o C w) (hl:Loose o C o1 C1 ks L) {ob:Ob} {oc:OC} (hx:mO w w') (hfp:oc.fp.Nodup) (hsub:∀ b∈oc.fp,(b∈L\/w.heap.size<=b)/\b < w'.heap.size)
  (hrep:iH w' (Ms c (C1 ++ [oc])) ob oc) (hnt:∀ r v,ob≠.tag r v:=by intro _ _ h; cases h) :
  RelW c (o1 ++ [ob]) (C1 ++ [oc]) w'/\∀ (e:jP) (a:Act),gX w c C e a->gX w' c (C1 ++ [oc]) (gN ks e) a:=by
 have hmem:∀ b∈fR (C1 ++ [oc]),(b∈fR C\/w.heap.size<=b)/\b < w'.heap.size:=by
  intro b hb
  have e:fR (C1 ++ [oc])=fR C1 ++ oc.fp:=by simp [fR]
  rw [e,aA] at hb
  rcases hb with hb|hb
  ·have h1:=(hl.fps b hb).1
   exact ⟨.inl h1,aZ (hw.lt b h1) hx.size⟩
  ·obtain ⟨h1,h2⟩:=hsub b hb
   exact ⟨h1.imp (hl.lsub b) id,h2⟩
 have hg:Went w w' (fun _=>False):=aZH hx _
 have hget:∀ (j:Nat) (od:OC),C1[j]?=some od->(C1 ++ [oc])[j]?=some od:=by
  intro j od h
  rw [List.getElem?_append_left (c6 h)]; exact h
 have hsame:∀ (q r:Nat) (v:Value),(o1 ++ [ob])[q]?=some (.tag r v)->o[q]?=some (.tag r v):=by
  intro q r v hq
  by_cases h:q < o1.length
  ·rw [List.getElem?_append_left h] at hq; exact hl.tag hq
  ·have hq':=c6 hq
   have e:q=o1.length:=by simp at hq'; omega
   subst e
   rw [List.getElem?_append_right (aB _),aM] at hq
   injection hq with hq
   exact absurd hq (hnt r v)
 refine ⟨hw.upd hg (fun b h=>h.elim) (by simp [hl.len]) ?_ ?_ hmem (fun q r v hq=>.inl (hsame q r v hq)) (fun q r v oc2 _ h=>by
  obtain ⟨od,h1,h2⟩:=hl.val h
  exact ⟨od,hget r od h1,h2⟩),fun e a h=>?_⟩
 ·intro r ob' oc' h1 h2
  by_cases hr:r < C1.length
  ·rw [List.getElem?_append_left hr] at h2
   rw [List.getElem?_append_left (by rw [hl.len]; exact hr)] at h1
   rcases hl.obs r ob' oc' h1 h2 with ⟨h3,h4,_⟩|⟨h3,h4,_⟩
   ·exact .inl ⟨h3,h4,fun _ _ h=>h⟩
   ·subst h3; exact .inr h4
  ·have hr':r=C1.length:=by
    have:=c6 h2
    simp at this; omega
   subst hr'
   rw [List.getElem?_append_right (aB _),aM] at h2
   rw [List.getElem?_append_right (by rw [hl.len]; exact aB _),hl.len,aM] at h1
   injection h1 with h1
   injection h2 with h2
   subst h1 h2
   exact .inr hrep
 ·have e:fR (C1 ++ [oc])=fR C1 ++ oc.fp:=by simp [fR]
  rw [e]
  refine aC.2 ⟨hl.nodup,hfp,fun a ha b hb hab=>?_⟩
  subst hab
  have h1:=hl.fps a ha
  rcases (hsub a hb).1 with h2|h2
  ·exact h1.2 h2
  ·have:=hw.lt a h1.1; omega
 ·refine hl.envR hg (fun b h=>h.elim) hmem (fun j od hj=>⟨od,hget j od hj,rfl,rfl⟩) (fun _=>false) ?_ (fun t=>by rw [nG]; simp) h
  intro s r od od' _ _ hk h1 h2 h3
  obtain ⟨od1,h4,_,_,h5⟩:=hl.same r od h1
  have:=h5 hk
  subst this
  rw [hget r od1 h4] at h3
  injection h3 with h3
  subst h3
  exact ⟨h2,fun h=>h⟩
theorem Loose.put (hw:RelW c o C w) (hl:Loose o C o1 C1 ks L) {r:Nat} {ob ob':Ob} {oc oc':OC} {X:Nat->Prop} (h1:o1[r]?=some ob) (h2:C1[r]?=some oc) (hg:Went w w' X) (hX:∀ b,X b->b∈oc.fp)
  (hfp:oc'.fp.Nodup) (hsub:∀ b∈oc'.fp,(b∈oc.fp\/b∈L\/w.heap.size<=b)/\b < w'.heap.size) (hrep:iH w' (Ms c (C1.set r oc')) ob' oc')
  (hvt:oc'.v=oc.v\/sO r o1=true) (hnt:∀ r v,ob'≠.tag r v:=by intro _ _ h; cases h) :
  RelW c (o1.set r ob') (C1.set r oc') w' /\
  ∀ (e:jP) (a:Act) (fv:SV->Bool) (e':jP),gX w c C e a->(oc'.v=oc.v/\oc'.blk=oc.blk/\(∀ s,fv s=false->gP r s=false)\/∀ s,fv s=false->gQ r s=false) ->
   (∀ t,look e' t=if fv (look e t) || ks.any (fun r=>gQ r (look e t)) then .any else look e t)->gX w' c (C1.set r oc') e' a:=by
 have hr2:=c6 h2
 have hnd:=eE.1 hl.nodup
 have hocC1:∀ b∈oc.fp,b∈fR C1:=fun b hb=>dG.2 ⟨r,oc,h2,hb⟩
 have hXC:∀ b,X b->b∈fR C:=fun b hb=>(hl.fps b (hocC1 b (hX b hb))).1
 have hother:∀ (j:Nat) (od:OC),r≠j->C1[j]?=some od->∀ b∈od.fp,b ∉ oc.fp:=fun j od hne hj b hb hb'=>hnd.2 r j oc od hne h2 hj b hb' hb
 have hmem:∀ b∈fR (C1.set r oc'),(b∈fR C\/w.heap.size<=b)/\b < w'.heap.size:=by
  intro b hb
  obtain ⟨j,od,hj,hb'⟩:=dG.1 hb
  rw [List.getElem?_set] at hj
  by_cases e:r=j
  ·rw [if_pos e,if_pos (by omega)] at hj
   injection hj with hj
   subst hj
   obtain ⟨h3,h4⟩:=hsub b hb'
   refine ⟨?_,h4⟩
   rcases h3 with h3|h3|h3
   ·exact .inl (hl.fps b (hocC1 b h3)).1
   ·exact .inl (hl.lsub b h3)
   ·exact .inr h3
  ·rw [if_neg e] at hj
   have h3:=(hl.fps b (dG.2 ⟨j,od,hj,hb'⟩)).1
   exact ⟨.inl h3,aZ (hw.lt b h3) hg.size⟩
 have hold:∀ (q s:Nat) (v:Value),(o1.set r ob')[q]?=some (.tag s v)->o1[q]?=some (.tag s v):=by
  intro q s v hq
  rw [List.getElem?_set] at hq
  by_cases e:r=q
  ·rw [if_pos e] at hq
   split at hq
   ·injection hq with hq; exact absurd hq (hnt s v)
   ·cases hq
  ·rw [if_neg e] at hq; exact hq
 refine ⟨hw.upd hg hXC (by simp [hl.len]) ?_ ?_ hmem (fun q s v hq=>.inl (hl.tag (hold q s v hq))) (fun q s v oc2 hq h=>by
  obtain ⟨od,h3,h4⟩:=hl.val h
  by_cases e:r=s
  ·subst e
   rw [h2] at h3
   injection h3 with h3
   subst h3
   refine ⟨oc',by rw [List.getElem?_set]; simp [hr2],?_⟩
   rcases hvt with hvt|hvt
   ·exact hvt.trans h4
   ·exact absurd rfl (aBX hvt (hold q r v hq))
  ·exact ⟨od,by rw [List.getElem?_set,if_neg e]; exact h3,h4⟩),fun e a fv e' he hv hlook=>?_⟩
 ·intro j obj ocj hj1 hj2
  rw [List.getElem?_set] at hj1 hj2
  by_cases e:r=j
  ·rw [if_pos e,if_pos (by have:=c6 h1; omega)] at hj1
   rw [if_pos e,if_pos (by omega)] at hj2
   injection hj1 with hj1
   injection hj2 with hj2
   subst hj1 hj2
   exact .inr hrep
  ·rw [if_neg e] at hj1 hj2
   rcases hl.obs j obj ocj hj1 hj2 with ⟨a1,a2,_⟩|⟨a1,a2,_⟩
   ·exact .inl ⟨a1,a2,fun b hb hXb=>hother j ocj e hj2 b hb (hX b hXb)⟩
   ·subst a1; exact .inr a2
 ·refine eE.2 ⟨fun j od hj=>?_,fun j s od oe hne hj hs b hb hb'=>?_⟩
  ·rw [List.getElem?_set] at hj
   by_cases e:r=j
   ·rw [if_pos e,if_pos (by omega)] at hj; injection hj with hj; subst hj; exact hfp
   ·rw [if_neg e] at hj; exact hnd.1 j od hj
  ·have key:∀ (s:Nat) (oe:OC),r≠s->C1[s]?=some oe->∀ b,b∈oc'.fp->b∈oe.fp->False:=by
    intro s oe e hs b hb hb'
    have h3:=hl.fps b (dG.2 ⟨s,oe,hs,hb'⟩)
    rcases (hsub b hb).1 with h4|h4|h4
    ·exact hother s oe e hs b hb' h4
    ·exact h3.2 h4
    ·have:=hw.lt b h3.1; omega
   rw [List.getElem?_set] at hj hs
   by_cases e:r=j
   ·rw [if_pos e,if_pos (by omega)] at hj
    injection hj with hj
    subst hj
    rw [if_neg (by omega)] at hs
    exact key s oe (by omega) hs b hb hb'
   ·rw [if_neg e] at hj
    by_cases e':r=s
    ·rw [if_pos e',if_pos (by omega)] at hs
     injection hs with hs
     subst hs
     exact key j od e hj b hb' hb
    ·rw [if_neg e'] at hs; exact hnd.2 j s od oe hne hj hs b hb hb'
 ·have hfin:∀ (s:SV) (q:Nat) (od od':OC),fv s=false->gP q s=true->q ∉ ks->C[q]?=some od->od.blk∈od.fp->(C1.set r oc')[q]?=some od'->od'.blk∈od'.fp/\¬ X od.blk:=by
   intro s q od od' hf hq hk a1 a2 a3
   have hqr:r≠q:=by
    intro e
    subst e
    rcases hv with ⟨_,_,hv⟩|hv
    ·rw [hv s hf] at hq; cases hq
    ·have h5:=hv s hf
     have:gQ r s=true:=by
      cases s with
      | tup xs =>
       simp only [gP,aS] at hq
       obtain ⟨s,hs,hq⟩:=hq
       simp only [gQ,aS]
       refine ⟨s,hs,?_⟩
       cases s<;>first|exact hq|cases hq
      | vw q=>exact hq
      | _=>cases hq
     rw [this] at h5; cases h5
   rw [List.getElem?_set,if_neg hqr] at a3
   obtain ⟨od1,a4,_,_,a5⟩:=hl.same q od a1
   have:=a5 hk
   subst this
   rw [a4] at a3
   injection a3 with a3
   subst a3
   exact ⟨a2,fun hXb=>hother q od1 hqr a4 _ a2 (hX _ hXb)⟩
  refine gX.upd (f:=fun s=>fv s || ks.any (fun r=>gQ r s)) hg hXC hmem ?_ ?_ hlook he
  ·intro s q od hf hq a1
   simp only [bQ] at hf
   obtain ⟨od1,a2,a3,a4,_⟩:=hl.same q od a1
   by_cases e:r=q
   ·subst e
    rcases hv with ⟨hv1,hv2,_⟩|hv
    ·rw [h2] at a2
     injection a2 with a2
     subst a2
     exact ⟨oc',by rw [List.getElem?_set]; simp [hr2],hv1.trans a3,hv2.trans a4⟩
    ·rw [hv s hf.1] at hq; cases hq
   ·exact ⟨od1,by rw [List.getElem?_set,if_neg e]; exact a2,a3,a4⟩
  ·intro s q od od' hf hq a1 a2 a3
   simp only [bQ] at hf
   refine hfin s q od od' hf.1 hq (fun hk=>?_) a1 a2 a3
   have h4:=aZ8.1 hf.2 q hk
   refine h4 ?_
   cases s with
   | tup xs =>
    simp only [gP,aS] at hq
    obtain ⟨s,hs,hq⟩:=hq
    simp only [gQ,aS]
    refine ⟨s,hs,?_⟩
    cases s<;>first|exact hq|cases hq
   | vw q=>exact hq
   | _=>cases hq
end
def D.isV:D->Bool
 | .nil=>false
 | .cons _ _=>false
 | _=>true
def zDs (P:Program):Nat->List TypeId->List Value->Option (D×List Value)
 | _,[],r=>some (.nil,r)
 | 0,_ :: _,_=>none
 | n + 1,t :: ts,cells =>
  match P.underlying t,cells with
  | some (.int _),.int k m :: r=>(zDs P n ts r).map fun (xs,r)=>(.cons (.int k m) xs,r)
  | some .bool,.bool b :: r=>(zDs P n ts r).map fun (xs,r)=>(.cons (.bool b) xs,r)
  | some .string,.string s :: r=>(zDs P n ts r).map fun (xs,r)=>(.cons (.str s.data.toList) xs,r)
  | some (.slice e),.slice none 0 0 :: r=>match e7 P e with
   | some es=>(zDs P n ts r).map fun (xs,r)=>(.cons (.sl true es .nil) xs,r)
   | none=>none
  | some (.interface _),.nilIface :: r=>(zDs P n ts r).map fun (xs,r)=>(.cons (.err true) xs,r)
  | some (.struct fs),cells=>match zDs P n (fs.toList.map (·.type)) cells with
   | some (ys,r)=>(zDs P n ts r).map fun (xs,r)=>(.cons (.st ys) xs,r)
   | none=>none
  | some (.array m e),cells=>match zDs P n (aP m e) cells with
   | some (ys,r)=>(zDs P n ts r).map fun (xs,r)=>(.cons (.st ys) xs,r)
   | none=>none
  | _,_=>none
def zD (P:Program) (t:TypeId):Option D :=
 match P.info? t with
 | some i=>match i.zero with
  | some v=>match zDs P 400 [t] v.cells.toList with
   | some (.cons z .nil,[])=>if z.isV && z.size == i.size then some z else none
   | _=>none
  | none=>none
 | none=>none
theorem yC {P:Program}:∀ (n:Nat) (ts:List TypeId) (cells r:List Value) (xs:D),zDs P n ts cells=some (xs,r)->∃ cs,cells=cs ++ r/\∀ (w:World) (M:Nat->Prop),xs.rep w M cs []
 | n,[],cells,r,xs,h=>by
  have h:some (D.nil,cells)=some (xs,r):=by cases n<;>exact h
  injection h with h
  injection h with h1 h2
  subst h1 h2
  exact ⟨[],rfl,fun w M=>⟨rfl,rfl⟩⟩
 | 0,_ :: _,cells,r,xs,h=>by cases h
 | n + 1,t :: ts,cells,r,xs,h=>by
  have one:∀ (d:D) (u:Value) (r0:List Value),(∀ (w:World) (M:Nat->Prop),d.rep w M [u] [])->((zDs P n ts r0).map fun (xs,r)=>(D.cons d xs,r))=some (xs,r) ->
    ∃ cs,u :: r0=cs ++ r/\∀ (w:World) (M:Nat->Prop),xs.rep w M cs []:=by
   intro d u r0 hd h
   obtain ⟨⟨ys,r1⟩,h1,h2⟩:=aI.1 h
   injection h2 with h2 h3
   subst h2 h3
   obtain ⟨cs,h4,h5⟩:=yC n ts r0 r1 ys h1
   exact ⟨u :: cs,by rw [h4]; rfl,fun w M=>⟨[u],cs,[],[],rfl,rfl,hd w M,h5 w M⟩⟩
  unfold zDs at h
  split at h
  ·exact one (.int _ _) _ _ (fun w M=>⟨rfl,rfl⟩) h
  ·exact one (.bool _) _ _ (fun w M=>⟨rfl,rfl⟩) h
  ·rename_i s r0 _
   exact one (.str s.data.toList) _ _ (fun w M=>⟨by simp,rfl⟩) h
  ·split at h
   ·rename_i es _
    exact one (.sl true es .nil) _ _ (fun w M=>⟨trivial,none,0,[],[],rfl,aB _,⟨rfl,rfl⟩,by simp⟩) h
   ·cases h
  ·exact one (.err true) _ _ (fun w M=>⟨rfl,by simp⟩) h
  ·split at h
   ·rename_i ys r0 hz
    obtain ⟨⟨zs,r1⟩,h1,h2⟩:=aI.1 h
    injection h2 with h2 h3
    subst h2 h3
    obtain ⟨cs,h4,h5⟩:=yC n _ _ _ _ hz
    obtain ⟨ds,h6,h7⟩:=yC n ts r0 r1 zs h1
    exact ⟨cs ++ ds,by rw [h4,h6]; simp,fun w M=>⟨cs,ds,[],[],rfl,rfl,h5 w M,h7 w M⟩⟩
   ·cases h
  ·split at h
   ·rename_i ys r0 hz
    obtain ⟨⟨zs,r1⟩,h1,h2⟩:=aI.1 h
    injection h2 with h2 h3
    subst h2 h3
    obtain ⟨cs,h4,h5⟩:=yC n _ _ _ _ hz
    obtain ⟨ds,h6,h7⟩:=yC n ts r0 r1 zs h1
    exact ⟨cs ++ ds,by rw [h4,h6]; simp,fun w M=>⟨cs,ds,[],[],rfl,rfl,h5 w M,h7 w M⟩⟩
   ·cases h
  ·cases h
theorem aDK {P:Program} {t:TypeId} {z:D} (h:zD P t=some z):∃ i v,P.info? t=some i/\i.zero=some v/\z.isV=true/\z.size=i.size/\∀ (w:World) (M:Nat->Prop),z.rep w M v.cells.toList []:=by
 unfold zD at h
 split at h
 ·rename_i i hi
  split at h
  ·rename_i v hv
   split at h
   ·rename_i z' hz
    split at h
    ·rename_i hc
     injection h with h
     subst h
     simp only [aY,beq_iff_eq] at hc
     refine ⟨i,v,hi,hv,hc.1,hc.2,fun w M=>?_⟩
     obtain ⟨cs,h1,h2⟩:=yC _ _ _ _ _ hz
     obtain ⟨c1,c2,f1,f2,e1,e2,h3,h4⟩:=h2 w M
     obtain ⟨rfl,rfl⟩:=h4
     have:f1=[]:=by simpa using e2.symm
     subst this
     rw [h1,e1]
     simpa using h3
    ·cases h
   ·cases h
  ·cases h
 ·cases h
theorem y8 {w:World} {M:Nat->Prop} {x:D} {cs:List Value} {fp:List Nat} (hx:x.isV=true) (h:x.rep w M cs fp):(iU x cs).cells.toList=cs:=by
 have hl:=dP _ _ _ h
 have h1:=qQ _ _ _ h
 cases x with
 | st xs=>rfl
 | nil=>cases hx
 | cons _ _=>cases hx
 | _ =>
  match cs,hl with
  | [u],_ =>
   have hu:=h1 u (by simp)
   show (Value.cells u).toList=[u]
   cases u<;>first|rfl|cases hu
def uL (o:List Ob) (x:SV) (y:D) (K:List Ob->Nat->Prop):Prop :=
 match x with
 | .ptr r off p=>∃ z u,o[r]?=some (.box z)/\fJ p z=off/\gC p z=some u/\y.size=u.size/\K (o.set r (.box (j8 p z y))) r
 | .el r es i off p=>∃ xs z u,o[r]?=some (.val (.sl true es xs))/\xs.nth i=some z/\fJ p z=off/\gC p z=some u/\y.size=u.size/\K (o.set r (.val (.sl true es (xs.setN i (j8 p z y))))) r
 | _=>False
theorem aAp {es:Nat}:∀ (xs:D) (i:Nat) (z:D),xs.isL es->xs.nth i=some z->xs.pre i=i * es/\z.size=es/\i < xs.len:=by
 intro xs
 induction xs with
 | cons a xs ih1 ih2 =>
  intro i z h hz
  cases i with
  | zero=>injection hz with hz; subst hz; exact ⟨by simp [D.pre],h.1,by simp [D.len]⟩
  | succ i =>
   obtain ⟨h1,h2,h3⟩:=ih2 i z h.2 hz
   exact ⟨by simp only [D.pre,h.1,h1,aZ4]; omega,h2,by simp only [D.len]; omega⟩
 | _=>intro i z h hz; cases i<;>cases hz
theorem aDl {es:Nat}:∀ (xs:D),xs.isL es->xs.size=xs.len * es:=by
 intro xs
 induction xs with
 | cons a xs ih1 ih2=>intro h; simp only [D.size,D.len,h.1,ih2 h.2,aZ4]; omega
 | nil=>intro _; simp [D.size,D.len]
 | _=>intro h; exact h.elim
theorem aB2 {α:Type} (cur cs:List α) (k n:Nat) (h:k + cs.length<=n) (hn:n<=cur.length) :
  (cur.take k ++ cs ++ cur.drop (k + cs.length)).take n=(cur.take n).take k ++ cs ++ (cur.take n).drop (k + cs.length):=by
 have h1:(cur.take k).length=k:=by simp; omega
 rw [aZ9,aZ9,aD,h1]
 rw [bK (by omega:(cur.take k).length<=n),bK (by omega:cs.length<=n - k),bW,bF (by omega),cF]
section
variable {c : Ctx} {o o1 : List Ob} {C C1 : List OC} {w w' : World} {ks L : List Nat} {e : jP} {a : Act}
theorem kL (w:World) (ob:Obj):mO w (w.alloc ob):=(Below.refl _ w).alloc (aB _) ob
theorem zN (w:World) (ob:Obj):(w.alloc ob).heap.size=w.heap.size + 1:=by simp
theorem aPo (hw:RelW c o C w) (hl:Loose o C o1 C1 ks L) {x:D} {cs:List Value} {fp:List Nat} {E:TypeId} (hx:x.rep w (Ms c C) cs fp) (hnd:fp.Nodup) (hsub:∀ b∈fp,b∈L) {cells:Array Value} (hcells:cells.toList=cs) :
  ∃ C',RelW c (o1 ++ [.box x]) C' (w.alloc (.cells cells E))/\(∀ (e:jP) (a:Act),gX w c C e a->gX (w.alloc (.cells cells E)) c C' (gN ks e) a) /\
   dX (w.alloc (.cells cells E)) (Ms c C') C' (.ptr o1.length 0 []) (.pointer (some ⟨w.heap.size,0,none⟩)):=by
 have hLlt:∀ b∈L,b < w.heap.size:=fun b hb=>hw.lt b (hl.lsub b hb)
 have hmem:∀ b,b < w.heap.size->Ms c (C1 ++ [{ v:=Go.undef,blk:=w.heap.size,fp:=w.heap.size :: fp }]) b->Ms c C b:=by
  intro b hb h
  rcases h with h|h
  ·exact .inl h
  ·have e:fR (C1 ++ [{ v:=Go.undef,blk:=w.heap.size,fp:=w.heap.size :: fp }])=fR C1 ++ (w.heap.size :: fp):=by simp [fR]
   rw [e,aA,aE] at h
   rcases h with h|h|h
   ·exact .inr (hl.fps b h).1
   ·omega
   ·exact .inr (hl.lsub b (hsub b h))
 have hrow:jA (w.alloc (.cells cells E)) w.heap.size cs.length cs:=⟨cells,E,jB.new w _ _,by rw [<- hcells]; simp,by rw [hcells,bD]⟩
 have h:=Loose.new hw hl (w':=w.alloc (.cells cells E)) (ob:=.box x) (oc:={ v:=Go.undef,blk:=w.heap.size,fp:=w.heap.size :: fp }) (kL w _)
  (aF.2 ⟨fun h=>by have:=hLlt _ (hsub _ h); omega,hnd⟩)
  (fun b hb=>by
   rw [zN]
   rcases aE.1 hb with hb|hb
   ·exact ⟨.inr (by omega),by omega⟩
   ·exact ⟨.inl (hsub b hb),by have:=hLlt b (hsub b hb); omega⟩)
  ⟨cs,fp,hrow,eR (kL w _).size hmem _ _ _ (fun b hb _=>(kL w _).block b hb) hx,rfl⟩
 refine ⟨_,h.1,h.2,?_⟩
 exact ⟨{ v:=Go.undef,blk:=w.heap.size,fp:=w.heap.size :: fp },by rw [List.getElem?_append_right (by rw [hl.len]; exact aB _),hl.len,aM]; rfl,rfl⟩
theorem jZ (P:Program) (g o:Nat) (t:TypeId):∀ (vs:List Value) (i:Nat) (cur:Array Value) (w:World),jB w g cur t->o + i + vs.length<=cur.size->(∀ v∈vs,v.oneCell'=true) ->
  (storeCells ⟨g,o,none⟩ vs i).run P w=.ok () (w.setRow g (cur.toList.take (o + i) ++ vs ++ cur.toList.drop (o + i + vs.length)).toArray)
 | [],i,cur,w,⟨fz,hg,_⟩,_,_=>by
  simp only [storeCells,aU,List.length_nil,bR,bC,Array.toArray_toList]
  rw [setRow_self w g cur t fz hg]
  rfl
 | v :: rest,i,cur,w,hr,hl,h1=>by
  have hr2:=hr
  obtain ⟨fz,hg,hfz⟩:=hr
  have hi:o + i < cur.size:=by simp at hl; omega
  have hadd:(⟨g,o,none⟩:Addr).add i=⟨g,o + i,none⟩:=by unfold Addr.add; split<;>simp_all
  have hcell:w.cell? ⟨g,o + i,none⟩=some cur[o + i]:=by simp [World.cell?,hg,hi]
  have hfro:w.frozen? ⟨g,o + i,none⟩=false:=hfz.no hg hi
  have hst:(store ((⟨g,o,none⟩:Addr).add i) v).run P w=.ok () (w.setRow g (cur.setIfInBounds (o + i) v)):=by
   rw [hadd,Go.run_store P w _ v _ (h1 v (by simp)),hcell]
   simp [hfro,setCell_eq_setRow w g (o + i) cur t fz v hg]
  have ih:=jZ P g o t rest (i + 1) (cur.setIfInBounds (o + i) v) (w.setRow g (cur.setIfInBounds (o + i) v)) (hr2.set (by simp)) (by simp at hl ⊢; omega) (fun x hx=>h1 x (by simp [hx]))
  simp only [storeCells,aG,hst,aN,ih,setRow_setRow]
  congr 3
  have e:=list_seg_step cur.toList (o + i) v rest (by simp at hl ⊢; omega)
  simpa [bY,bAj] using e
theorem run_store {P:Program} {t:TypeId} {i:TypeInfo} {v:Value} {g off:Nat} {cur:Array Value} {E:TypeId} (hi:P.info? t=some i) (hs:v.cells.size=i.size) (hg:jB w g cur E)
  (hfit:off + v.cells.size<=cur.size) (h1:∀ u∈v.cells.toList,u.oneCell'=true) :
  (Instr.storeAt t (.pointer (some ⟨g,off,none⟩)) v).run P w=.ok () (w.setRow g (cur.toList.take off ++ v.cells.toList ++ cur.toList.drop (off + v.cells.size)).toArray):=by
 have h:=jZ P g off E v.cells.toList 0 cur w hg (by simpa using hfit) h1
 simp only [bR] at h
 simp [Instr.storeAt,Instr.sureAddr,storeVar,sizeOf,typeInfo,hi,hs,h]
theorem gI (w:World) (g:Nat) (cs:Array Value):Went w (w.setRow g cs) (fun b=>b=g) :=
 ⟨rfl,rfl,rfl,by simp,fun b _ hb=>setRow_other w g b cs hb⟩
theorem zU (r:Nat) (kr:List Nat) (e:jP) (t:Nat):look (nY (gP r) (gN kr e)) t=if gP r (look e t) || kr.any (fun r=>gQ r (look e t)) then .any else look e t:=by
 rw [lK (gP r) rfl,nG]
 by_cases h:(kr.any fun r=>gQ r (look e t))=true
 ·rw [h]; simp [gP]
 ·simp [h]
theorem aHN (hw:RelW c o C w) (hl:Loose o C o1 C1 ks L) {x:SV} {xv:Value} {y:D} {cs:List Value} {fp:List Nat} {K:List Ob->Nat->Prop} (hxv:dX w (Ms c C) C x xv) (hks:∀ r∈ks,gQ r x=false)
  (hy:y.rep w (Ms c C) cs fp) (hnd:fp.Nodup) (hsub:∀ b∈fp,b∈L) (h:uL o1 x y K) :
  ∃ o2 r C',K o2 r/\∃ g off cur E,xv=.pointer (some ⟨g,off,none⟩)/\jB w g cur E/\off + cs.length<=cur.size /\
   RelW c o2 C' (w.setRow g (cur.toList.take off ++ cs ++ cur.toList.drop (off + cs.length)).toArray) /\
   ∀ (e:jP) (a:Act),gX w c C e a->gX (w.setRow g (cur.toList.take off ++ cs ++ cur.toList.drop (off + cs.length)).toArray) c C' (nY (gP r) (gN ks e)) a:=by
 have hLlt:∀ b∈L,b < w.heap.size:=fun b hb=>hw.lt b (hl.lsub b hb)
 have hlen:=dP _ _ _ hy
 cases x with
 | ptr r off p =>
  obtain ⟨z,u,h1,ho,hu,hs,hK⟩:=h
  obtain ⟨oc,h2,rfl⟩:=hxv
  have hrk:r ∉ ks:=fun hk=>by have:=hks r hk; simp [gQ,k0] at this
  obtain ⟨oc1,h3,_,_,h4⟩:=hl.same r oc h2
  have:=h4 hrk
  subst this
  rcases hl.obs r _ oc1 h1 h3 with ⟨h5,h6,_⟩|⟨h5,_⟩
  case inr=>cases h5
  obtain ⟨zs,fps,hrow,hrep,hfp⟩:=hw.obs r _ oc1 h5 h6
  obtain ⟨cur,E,hcur,hsz,htk⟩:=hrow
  have hcz:cur.toList=zs:=by rw [<- htk,bK (by simp [hsz])]
  obtain ⟨f1,f0,f2,hf,hru,hle,hset⟩:=tY p z zs fps u hrep hu
  have hnd1:=(eE.1 hl.nodup).1 r oc1 h3
  rw [hfp,hf] at hnd1
  have hnd2:=aF.1 hnd1
  have hnew:cur.toList.take off ++ cs ++ cur.toList.drop (off + cs.length)=zs.take (fJ p z) ++ cs ++ zs.drop (fJ p z + u.size):=by rw [hcz,ho,hlen,hs]
  have hlnew:(zs.take (fJ p z) ++ cs ++ zs.drop (fJ p z + u.size)).length=zs.length:=by
   simp only [aD,aK,aR,hlen,hs]; omega
  have hput:=Loose.put hw hl (r:=r) (ob:=.box z) (ob':=.box (j8 p z y)) (oc:=oc1) (oc':={ v:=oc1.v,blk:=oc1.blk,fp:=oc1.blk :: (f1 ++ fp ++ f2) }) (X:=fun b=>b=oc1.blk)
   (w':=w.setRow oc1.blk (cur.toList.take off ++ cs ++ cur.toList.drop (off + cs.length)).toArray) h1 h3 (gI w _ _) (fun b hb=>by rw [hb,hfp]; simp) ?_ ?_ ?_ (.inl rfl)
  ·refine ⟨_,r,_,hK,oc1.blk,off,cur,E,rfl,hcur,by rw [hlen,hs,<-ho,hsz]; exact hle,hput.1,fun e a he=>?_⟩
   exact hput.2 e a (gP r) _ he (.inl ⟨rfl,rfl,fun s hs=>hs⟩) (zU r ks e)
  ·refine aF.2 ⟨fun hb=>?_,?_⟩
   ·simp only [aA] at hb
    rcases hb with (hb|hb)|hb
    ·exact hnd2.1 (by simp [hb])
    ·exact (hl.fps oc1.blk (dG.2 ⟨r,oc1,h3,by rw [hfp]; simp⟩)).2 (hsub _ hb)
    ·exact hnd2.1 (by simp [hb])
   ·have hn3:=hnd2.2
    rw [aW,aC] at hn3
    rw [aW,aC]
    have hn4:=(aC.1 hn3.2.1).2.1
    have hin:∀ b∈f1 ++ f2,b∈fR C1:=fun b hb=>dG.2 ⟨r,oc1,h3,by rw [hfp,hf]; simp only [aA,aE] at hb ⊢; rcases hb with hb|hb<;>simp [hb]⟩
    refine ⟨hn3.1,aC.2 ⟨hnd,hn4,fun b hb d hd hbd=>?_⟩,fun b hb d hd hbd=>?_⟩
    ·subst hbd; exact (hl.fps b (hin b (by simp [hd]))).2 (hsub b hb)
    ·subst hbd
     rcases aA.1 hd with hd|hd
     ·exact (hl.fps b (hin b (by simp [hb]))).2 (hsub b hd)
     ·exact hn3.2.2 b hb b (by simp [hd]) rfl
  ·intro b hb
   simp only [setRow_size]
   have:b∈oc1.fp\/b∈L:=by
    simp only [aE,aA] at hb
    rw [hfp,hf]
    rcases hb with hb|(hb|hb)|hb
    ·exact .inl (by simp [hb])
    ·exact .inl (by simp [hb])
    ·exact .inr (hsub b hb)
    ·exact .inl (by simp [hb])
   refine ⟨by rcases this with h|h; exact .inl h; exact .inr (.inl h),?_⟩
   rcases this with h|h
   ·exact hw.lt b (hl.fps b (dG.2 ⟨r,oc1,h3,h⟩)).1
   ·exact hLlt b h
  ·have hM':∀ b,b < w.heap.size->Ms c (C1.set r { v:=oc1.v,blk:=oc1.blk,fp:=oc1.blk :: (f1 ++ fp ++ f2) }) b->Ms c C b:=by
    intro b hb h
    rcases h with h|h
    ·exact .inl h
    ·obtain ⟨j,od,hj,hb'⟩:=dG.1 h
     rw [List.getElem?_set] at hj
     by_cases e:r=j
     ·rw [if_pos e,if_pos (by have:=c6 h3; omega)] at hj
      injection hj with hj
      subst hj
      simp only [aE,aA] at hb'
      have hin:b∈oc1.fp\/b∈L:=by
       rw [hfp,hf]
       rcases hb' with hb|(hb|hb)|hb
       ·exact .inl (by simp [hb])
       ·exact .inl (by simp [hb])
       ·exact .inr (hsub b hb)
       ·exact .inl (by simp [hb])
      rcases hin with h|h
      ·exact .inr (hl.fps b (dG.2 ⟨r,oc1,h3,h⟩)).1
      ·exact .inr (hl.lsub b h)
     ·rw [if_neg e] at hj
      exact .inr (hl.fps b (dG.2 ⟨j,od,hj,hb'⟩)).1
   have hkeep:∀ (fq:List Nat),oc1.blk ∉ fq->u7 w (Ms c C) (w.setRow oc1.blk (cur.toList.take off ++ cs ++ cur.toList.drop (off + cs.length)).toArray) (Ms c (C1.set r { v:=oc1.v,blk:=oc1.blk,fp:=oc1.blk :: (f1 ++ fp ++ f2) })) fq:=by
    intro fq hq
    refine ⟨by simp,hM',fun b hb hx=>setRow_other w _ b _ fun e=>?_⟩
    subst e
    rcases hx with hx|hx
    ·exact hq hx
    ·exact hx (.inr (hl.fps _ (dG.2 ⟨r,oc1,h3,by rw [hfp]; simp⟩)).1)
   have hyn:oc1.blk ∉ fp:=fun hb=>(hl.fps oc1.blk (dG.2 ⟨r,oc1,h3,by rw [hfp]; simp⟩)).2 (hsub _ hb)
   refine ⟨zs.take (fJ p z) ++ cs ++ zs.drop (fJ p z + u.size),f1 ++ fp ++ f2,⟨_,E,hcur.set (by simp; omega),?_,?_⟩,hset _ _ y cs fp (hkeep _ (fun hb=>hnd2.1 (by simp only [aA] at hb ⊢; rcases hb with hb|hb<;>simp [hb]))) ((hkeep fp hyn).rep hy) hs,rfl⟩
   ·rw [hnew]; simp
   ·rw [hnew]; exact bD
 | el r es i off p =>
  obtain ⟨xs,z,u,h1,hi,ho,hu,hs,hK⟩:=h
  obtain ⟨oc,g,n,cp,h2,hov,rfl⟩:=hxv
  have hrk:r ∉ ks:=fun hk=>by have:=hks r hk; simp [gQ,k0] at this
  obtain ⟨oc1,h3,_,_,h4⟩:=hl.same r oc h2
  have:=h4 hrk
  subst this
  rcases hl.obs r _ oc1 h1 h3 with ⟨h5,h6,_⟩|⟨h5,_⟩
  case inr=>cases h5
  obtain ⟨vs,hrepv,hpk⟩:=hw.obs r _ oc1 h5 h6
  obtain ⟨hL,a',c',ds,fps,e1,e2,hrep,h7⟩:=hrepv
  rw [hov,e1] at hpk
  simp only [iU,bA] at hpk
  injection hpk with ha hn hc
  subst ha hn hc
  simp only [if_true] at h7
  rcases h7 with ⟨h7,_⟩|⟨g',h7,hrow,hfp⟩
  ·have:=(aAp xs i z hL hi).2.2; omega
  injection h7 with h7
  injection h7 with h7
  subst h7
  obtain ⟨hpre,hzs,hilt⟩:=aAp xs i z hL hi
  obtain ⟨⟨cur,E,hcur,hsz,htk⟩,hnm⟩:=hrow
  obtain ⟨g1,g0,g2,hf,hrz,hle1,hset1⟩:=aAK xs ds fps i z hrep hi
  obtain ⟨f1,f0,f2,hf',hru,hle,hset⟩:=tY p z _ g0 u hrz hu
  have hdl:ds.length=xs.len * es:=by rw [dP _ _ _ hrep,aDl _ hL]
  have hcurlen:ds.length<=cur.toList.length:=by
   have:=congrArg bAl htk
   simp only [aK] at this
   omega
  have hzl:((ds.drop (xs.pre i)).take z.size).length=z.size:=by simp; omega
  rw [hzl] at hle
  rw [hpre,hzs] at hle1
  have hnd1:=(eE.1 hl.nodup).1 r oc1 h3
  have hfp2:oc1.fp=g :: (g1 ++ (f1 ++ f0 ++ f2) ++ g2):=by rw [hfp,hf,hf']
  rw [hfp2] at hnd1
  have hnd2:=aF.1 hnd1
  have hnew:(cur.toList.take (i * es + off) ++ cs ++ cur.toList.drop (i * es + off + cs.length)).take ds.length=ds.take (i * es + off) ++ cs ++ ds.drop (i * es + off + cs.length):=by
   rw [aB2 _ _ _ _ (by rw [hlen,hs]; omega) hcurlen,htk]
  have hnew2:ds.take (i * es + off) ++ cs ++ ds.drop (i * es + off + cs.length) =
    ds.take (xs.pre i) ++ (((ds.drop (xs.pre i)).take z.size).take (fJ p z) ++ cs ++ ((ds.drop (xs.pre i)).take z.size).drop (fJ p z + u.size)) ++ ds.drop (xs.pre i + z.size):=by
   rw [aNO _ _ _ _ _ _ (by omega),hpre,ho,hlen,hs]
  have hlnew:(ds.take (i * es + off) ++ cs ++ ds.drop (i * es + off + cs.length)).length=ds.length:=by
   simp only [aD,aK,aR,hlen,hs]; omega
  have hsz2:(j8 p z y).size=z.size:=t6 p z u y hu hs
  have hput:=Loose.put hw hl (r:=r) (ob:=.val (.sl true es xs)) (ob':=.val (.sl true es (xs.setN i (j8 p z y)))) (oc:=oc1) (oc':={ v:=oc1.v,blk:=oc1.blk,fp:=g :: (g1 ++ (f1 ++ fp ++ f2) ++ g2) }) (X:=fun b=>b=g)
   (w':=w.setRow g (cur.toList.take (i * es + off) ++ cs ++ cur.toList.drop (i * es + off + cs.length)).toArray) h1 h3 (gI w _ _) (fun b hb=>by rw [hb,hfp]; simp) ?_ ?_ ?_ (.inl rfl)
  ·refine ⟨_,r,_,hK,g,i * es + off,cur,E,rfl,hcur,?_,hput.1,fun e a he=>?_⟩
   ·have:cur.toList.length=cur.size:=by simp
    rw [hlen,hs]; omega
   ·exact hput.2 e a (gP r) _ he (.inl ⟨rfl,rfl,fun s hs=>hs⟩) (zU r ks e)
  ·have hg:g∈fR C1:=dG.2 ⟨r,oc1,h3,by rw [hfp]; simp⟩
   refine aF.2 ⟨fun hb=>?_,?_⟩
   ·simp only [aA] at hb
    rcases hb with (hb|(hb|hb)|hb)|hb
    ·exact hnd2.1 (by simp [hb])
    ·exact hnd2.1 (by simp [hb])
    ·exact (hl.fps g hg).2 (hsub _ hb)
    ·exact hnd2.1 (by simp [hb])
    ·exact hnd2.1 (by simp [hb])
   ·have hn3:=hnd2.2
    have e1:g1 ++ (f1 ++ f0 ++ f2) ++ g2=(g1 ++ f1) ++ (f0 ++ (f2 ++ g2)):=by simp
    have e2:g1 ++ (f1 ++ fp ++ f2) ++ g2=(g1 ++ f1) ++ (fp ++ (f2 ++ g2)):=by simp
    rw [e1,aC] at hn3
    rw [e2,aC]
    have hn4:=(aC.1 hn3.2.1).2.1
    have hin:∀ b,b∈(g1 ++ f1)\/b∈(f2 ++ g2)->b∈fR C1:=fun b hb=>dG.2 ⟨r,oc1,h3,by
     rw [hfp2,e1]
     rcases hb with hb|hb
     ·exact aL _ (aV _ hb)
     ·exact aL _ (aQ _ (aQ _ hb))⟩
    refine ⟨hn3.1,aC.2 ⟨hnd,hn4,fun b hb d hd hbd=>?_⟩,fun b hb d hd hbd=>?_⟩
    ·subst hbd; exact (hl.fps b (hin b (.inr hd))).2 (hsub b hb)
    ·subst hbd
     rcases aA.1 hd with hd|hd
     ·exact (hl.fps b (hin b (.inl hb))).2 (hsub b hd)
     ·exact hn3.2.2 b hb b (aQ _ hd) rfl
  ·intro b hb
   simp only [setRow_size]
   have:b∈oc1.fp\/b∈L:=by
    simp only [aE,aA] at hb
    rw [hfp2]
    rcases hb with hb|(hb|(hb|hb)|hb)|hb
    ·exact .inl (by simp [hb])
    ·exact .inl (by simp [hb])
    ·exact .inl (by simp [hb])
    ·exact .inr (hsub b hb)
    ·exact .inl (by simp [hb])
    ·exact .inl (by simp [hb])
   refine ⟨by rcases this with h|h; exact .inl h; exact .inr (.inl h),?_⟩
   rcases this with h|h
   ·exact hw.lt b (hl.fps b (dG.2 ⟨r,oc1,h3,h⟩)).1
   ·exact hLlt b h
  ·have hM':∀ b,b < w.heap.size->Ms c (C1.set r { v:=oc1.v,blk:=oc1.blk,fp:=g :: (g1 ++ (f1 ++ fp ++ f2) ++ g2) }) b->Ms c C b:=by
    intro b hb h
    rcases h with h|h
    ·exact .inl h
    ·obtain ⟨j,od,hj,hb'⟩:=dG.1 h
     rw [List.getElem?_set] at hj
     by_cases e:r=j
     ·rw [if_pos e,if_pos (by have:=c6 h3; omega)] at hj
      injection hj with hj
      subst hj
      simp only [aE,aA] at hb'
      have hin:b∈oc1.fp\/b∈L:=by
       rw [hfp2]
       rcases hb' with hb|(hb|(hb|hb)|hb)|hb
       ·exact .inl (by simp [hb])
       ·exact .inl (by simp [hb])
       ·exact .inl (by simp [hb])
       ·exact .inr (hsub b hb)
       ·exact .inl (by simp [hb])
       ·exact .inl (by simp [hb])
      rcases hin with h|h
      ·exact .inr (hl.fps b (dG.2 ⟨r,oc1,h3,h⟩)).1
      ·exact .inr (hl.lsub b h)
     ·rw [if_neg e] at hj
      exact .inr (hl.fps b (dG.2 ⟨j,od,hj,hb'⟩)).1
   have hgC:g∈fR C1:=dG.2 ⟨r,oc1,h3,by rw [hfp]; simp⟩
   have hkeep:∀ (fq:List Nat),g ∉ fq->u7 w (Ms c C) (w.setRow g (cur.toList.take (i * es + off) ++ cs ++ cur.toList.drop (i * es + off + cs.length)).toArray) (Ms c (C1.set r { v:=oc1.v,blk:=oc1.blk,fp:=g :: (g1 ++ (f1 ++ fp ++ f2) ++ g2) })) fq:=by
    intro fq hq
    refine ⟨by simp,hM',fun b hb hx=>setRow_other w _ b _ fun e=>?_⟩
    subst e
    rcases hx with hx|hx
    ·exact hq hx
    ·exact hx (.inr (hl.fps _ hgC).1)
   have hyn:g ∉ fp:=fun hb=>(hl.fps g hgC).2 (hsub _ hb)
   have hn1:g ∉ f1 ++ f2:=fun hb=>hnd2.1 (by simp only [aA] at hb ⊢; rcases hb with hb|hb<;>simp [hb])
   have hn2:g ∉ g1 ++ g2:=fun hb=>hnd2.1 (by simp only [aA] at hb ⊢; rcases hb with hb|hb<;>simp [hb])
   have k1:=hset _ _ y cs fp (hkeep _ hn1) ((hkeep fp hyn).rep hy) hs
   have k2:=hset1 _ _ _ _ _ (hkeep _ hn2) k1 hsz2
   rw [<- hnew2] at k2
   refine ⟨[.slice (some ⟨g,0,none⟩) xs.len cp],⟨aC3 _ _ _ hL (by rw [hsz2,hzs]),some ⟨g,0,none⟩,cp,_,_,by rw [tD],by rw [tD]; exact e2,k2,?_⟩,hov⟩
   simp only [if_true]
   refine .inr ⟨g,rfl,⟨⟨_,E,hcur.set (by simp only [aO,aD,aK,aR,hlen,hs,aH]; simp only [aH] at hcurlen; omega),?_,?_⟩,fun he=>(hnm he).set hcur⟩,rfl⟩
   ·rw [<- hsz]
    simp only [aO,aD,aK,aR,hlen,hs]
    have:cur.toList.length=cur.size:=by simp
    omega
   ·rw [hlnew]; exact hnew
 | _=>exact h.elim
end
def D.app:D->D->D
 | .cons x xs,ys=>.cons x (xs.app ys)
 | _,ys=>ys
theorem aGB:∀ xs ys:List D,(kN xs).app (kN ys)=kN (xs ++ ys)
 | [],ys=>rfl
 | x :: xs,ys=>by simp only [kN,D.app,bZ,aGB xs ys]
def jD (o:List Ob) (xs:D):List (Nat×SV)->(D->List Ob->List Nat->Prop)->Prop
 | [],K=>K xs o []
 |(i,s) :: ps,K=>nR o s fun y o1 kr=>∃ u,xs.nth i=some u/\y.size=u.size/\y.isV=true/\jD o1 (xs.setN i y) ps fun xs' o2 kr'=>K xs' o2 (kr ++ kr')
section
variable {w w' : World} {M : Nat -> Prop}
theorem aFC (off:Nat):∀ (xs:List Value) (k:Nat) (cells:Array Value),off + k + xs.length<=cells.size ->
  (xs.zipIdx k).foldl (fun cs (p:Value×Nat)=>cs.setIfInBounds (off + p.2) p.1) cells=(cells.toList.take (off + k) ++ xs ++ cells.toList.drop (off + k + xs.length)).toArray
 | [],k,cells,_=>by simp
 | x :: xs,k,cells,h=>by
  simp only [bL] at h
  rw [List.zipIdx_cons,List.foldl_cons,aFC off xs (k + 1) _ (by simp; omega)]
  congr 1
  have hk:off + k < cells.toList.length:=by simp; omega
  simp only [bY,bL]
  have h1:(cells.toList.set (off + k) x).take (off + (k + 1))=cells.toList.take (off + k) ++ [x]:=by
   rw [show off + (k + 1)=(off + k) + 1 by omega,List.take_add_one,List.take_set_of_le (aB _),List.getElem?_set_self hk]
   rfl
  have h2:(cells.toList.set (off + k) x).drop (off + (k + 1) + xs.length)=cells.toList.drop (off + k + (xs.length + 1)):=by
   rw [List.drop_set_of_lt (by omega)]
   congr 1; omega
  rw [h1,h2]
  simp
theorem aOx (v:Value) (off:Nat) (cells:Array Value) (h:off + v.cells.size<=cells.size) :
  v.cells.zipIdx.foldl (fun cs (c,j)=>cs.setIfInBounds (off + j) c) cells=(cells.toList.take off ++ v.cells.toList ++ cells.toList.drop (off + v.cells.size)).toArray:=by
 have h1:=aFC off v.cells.toList 0 cells (by simpa using h)
 simp only [bR,aH] at h1
 rw [<- h1,<-Array.foldl_toList,Array.toList_zipIdx]
theorem rB:∀ (xs:D) (i j:Nat) (y:D),(xs.setN i y).nth j=if i=j then (xs.nth i).map (fun _=>y) else xs.nth j:=by
 intro xs
 induction xs with
 | cons a xs ih1 ih2 =>
  intro i j y
  cases i with
  | zero=>cases j with
   | zero=>simp [D.setN,D.nth]
   | succ j=>simp [D.setN,D.nth]
  | succ i=>cases j with
   | zero=>simp [D.setN,D.nth]
   | succ j=>simp only [D.setN,D.nth,ih2,Nat.add_right_cancel_iff]
 | _=>intro i j y; cases i<;>cases j<;>simp [D.setN,D.nth]
theorem aOn:∀ (xs:D) (i j:Nat) (x y:D),xs.nth i=some x->y.size=x.size->(xs.setN i y).pre j=xs.pre j:=by
 intro xs
 induction xs with
 | cons a xs ih1 ih2 =>
  intro i j x y hx hy
  cases i with
  | zero =>
   injection hx with hx
   subst hx
   cases j with
   | zero=>rfl
   | succ j=>simp only [D.setN,D.pre,hy]
  | succ i=>cases j with
   | zero=>rfl
   | succ j=>simp only [D.setN,D.pre,ih2 i j x y hx hy]
 | _=>intro i j x y hx; cases i<;>cases hx
def aBr (place:Nat->Option (Nat×Nat)) (xs:D):Prop:=∀ (i:Nat) (u:D),xs.nth i=some u->place i=some (xs.pre i,u.size)
theorem aBr.set {place:Nat->Option (Nat×Nat)} {xs:D} {i:Nat} {u y:D} (h:aBr place xs) (hu:xs.nth i=some u) (hy:y.size=u.size):aBr place (xs.setN i y):=by
 intro j z hz
 rw [rB] at hz
 rw [aOn xs i j u y hu hy]
 by_cases e:i=j
 ·subst e
  rw [if_pos rfl,hu] at hz
  simp only [bT,Option.some.injEq] at hz
  subst hz
  rw [h i u hu,hy]
 ·rw [if_neg e] at hz; exact h j z hz
end
section
variable {c : Ctx} {o o1 : List Ob} {C C1 : List OC} {w w' : World} {ks L : List Nat}
theorem qD {place:Nat->Option (Nat×Nat)} (hw:RelW c o C w):∀ (ps:List (Nat×SV)) (vs:List (Nat×Value)) (K:D->List Ob->List Nat->Prop) (o1:List Ob) (C1:List OC) (ks L:List Nat) (xs:D) (cells:Array Value) (fp:List Nat),
  Loose o C o1 C1 ks L->vs.length=ps.length->(∀ (k:Nat) (p:Nat×SV) (v:Nat×Value),ps[k]?=some p->vs[k]?=some v->v.1=p.1/\dX w (Ms c C) C p.2 v.2) ->
  aBr place xs->xs.rep w (Ms c C) cells.toList fp->fp.Nodup->(∀ b∈fp,b∈L)->jD o1 xs ps K ->
  ∃ xs' o2 C2 kr L' cells' fp',K xs' o2 kr/\Instr.fill place cells vs=some cells'/\xs'.rep w (Ms c C) cells'.toList fp'/\fp'.Nodup/\(∀ b∈fp',b∈L')/\Loose o C o2 C2 (ks ++ kr) L'/\cells'.size=cells.size/\xs'.len=xs.len/\∀ es,xs.isL es->xs'.isL es
 | [],vs,K,o1,C1,ks,L,xs,cells,fp,hl,hlen,_,_,hr,hnd,hsub,h=>by
  have:vs=[]:=aX hlen
  subst this
  exact ⟨xs,o1,C1,[],L,cells,fp,h,rfl,hr,hnd,hsub,by simpa using hl,rfl,rfl,fun _ h=>h⟩
 |(i,s) :: ps,vs,K,o1,C1,ks,L,xs,cells,fp,hl,hlen,hv,hp,hr,hnd,hsub,h=>by
  match vs,hlen with
  |(i',v) :: vs,hlen =>
   obtain ⟨hi,hv0⟩:=hv 0 (i,s) (i',v) rfl rfl
   have hi:i'=i:=hi
   subst hi
   obtain ⟨y,o2,C2,kr,cs,fy,⟨u,hu,hsz,hV,hK⟩,rfl,hy,hl2⟩:=pP hw hl hv0 h
   have hpc:=y8 hV hy
   have hcl:(iU y cs).cells.size=u.size:=by rw [<- aH,hpc,dP _ _ _ hy,hsz]
   obtain ⟨f1,f0,f2,hf,_,hle,hset⟩:=aAK xs cells.toList fp i' u hr hu
   have hle':xs.pre i' + u.size<=cells.size:=by simpa using hle
   have hLn:=aC.1 hl2.lnodup
   have hr2:=hset w (Ms c C) y cs fy ⟨aB _,fun _ _ h=>h,fun _ _ _=>rfl⟩ hy hsz
   have hfill:=aOx (iU y cs) (xs.pre i') cells (by rw [hcl]; exact hle')
   have hnd':(f1 ++ fy ++ f2).Nodup:=by
    rw [hf,aW,aC] at hnd
    rw [aW,aC]
    have hd:∀ b∈f1 ++ f2,∀ d∈fy,b≠d:=fun b hb d hd'=>hLn.2.2 b (hsub b (by rw [hf]; simp only [aA] at hb ⊢; rcases hb with hb|hb<;>simp [hb])) d hd'
    refine ⟨hnd.1,aC.2 ⟨hLn.2.1,(aC.1 hnd.2.1).2.1,fun b hb d hd' e=>hd d (by simp [hd']) b hb e.symm⟩,fun b hb d hd'=>?_⟩
    rcases aA.1 hd' with hd'|hd'
    ·exact hd b (by simp [hb]) d hd'
    ·exact hnd.2.2 b hb d (by simp [hd'])
   have hcells:(cells.toList.take (xs.pre i') ++ (iU y cs).cells.toList ++ cells.toList.drop (xs.pre i' + (iU y cs).cells.size)).toArray.toList=cells.toList.take (xs.pre i') ++ cs ++ cells.toList.drop (xs.pre i' + u.size):=by rw [hpc,hcl]
   obtain ⟨xs',o3,C3,kr',L',cells',fp',h1,h2,h3,h4,h5,h6,h7,h8,h9⟩:=qD hw ps vs _ o2 C2 (ks ++ kr) (L ++ fy) (xs.setN i' y) (cells.toList.take (xs.pre i') ++ (iU y cs).cells.toList ++ cells.toList.drop (xs.pre i' + (iU y cs).cells.size)).toArray (f1 ++ fy ++ f2) hl2
    (by simpa using hlen) (fun k p v hk hk'=>hv (k + 1) p v hk hk') (hp.set hu hsz) (by rw [hcells]; exact hr2) hnd'
    (fun b hb=>by
     simp only [aA] at hb ⊢
     rcases hb with (hb|hb)|hb
     ·exact .inl (hsub b (by rw [hf]; simp [hb]))
     ·exact .inr hb
     ·exact .inl (hsub b (by rw [hf]; simp [hb]))) hK
   refine ⟨xs',o3,C3,kr ++ kr',L',cells',fp',h1,?_,h3,h4,h5,by rw [<- aW]; exact h6,?_,by rw [h8,tD],fun es hL=>h9 es (aC3 _ _ _ hL (by rw [hsz,(aAp _ _ _ hL hu).2.1]))⟩
   ·simp only [Instr.fill,hp i' u hu]
    rw [if_neg (by simp [hcl]; omega),hfill]
    exact h2
   ·rw [h7,hpc,hcl]
    simp only [aO,aD,aK,aR,dP _ _ _ hy,hsz]
    have:cells.toList.length=cells.size:=by simp
    omega
theorem aMB (zc:Array Value):∀ n:Nat,(madeCells zc ((n + 1) * zc.size)).toList=(madeCells zc (n * zc.size)).toList ++ zc.toList:=by
 intro n
 unfold madeCells
 simp only [bM,aZ5]
 rw [aZ4,List.range_add,bAd]
 congr 1
 rw [List.map_map]
 apply List.ext_getElem
 ·simp
 ·intro i h1 h2
  simp only [bAe,List.length_range] at h1
  simp only [List.getElem_map,List.getElem_range,Function.comp]
  have h3:(n * zc.size + i) % zc.size=i:=by rw [Nat.mul_comm,Nat.mul_add_mod,Nat.mod_eq_of_lt h1]
  rw [h3]
  simp [h1]
theorem aAC {M:Nat->Prop} {z:D} {zc:Array Value} (hz:z.rep w M zc.toList []):∀ n:Nat,(kN (aP n z)).rep w M (madeCells zc (n * zc.size)).toList []
 | 0=>by simp [madeCells,kN,D.rep]
 | n + 1=>by
  rw [aMB,List.replicate_succ',gE]
  exact ⟨_,_,[],[],rfl,rfl,aAC hz n,zc.toList,[],[],[],by simp,rfl,hz,rfl,rfl⟩
end
section
variable {P : Program} {w : World}
theorem aDY {t ty e:TypeId} {i:TypeInfo} (ht:P.underlying t=some (.slice e)) (hi:P.info? e=some i) (b a:Option Addr) (n cp cp':Nat) (hn:n<=cp) :
  (Builtin.append_ #[t,t] ty #[.slice b n cp,.slice a 0 cp']).run P w=.ok (.slice b n cp) w:=by
 cases b<;>cases a<;>simp [Builtin.append_,run_underlying ht,sizeOf,typeInfo,hi,Builtin.lenOf,Builtin.firstCells,hn,loadCells,loadCellsFrom,storeCells]
theorem uN {t ty e:TypeId} {i:TypeInfo} {z:Value} (ht:P.underlying t=some (.slice e)) (hi:P.info? e=some i) (hz:i.zero=some z)
  (xa:Option Addr) (a:Addr) (n c:Nat) (news:List Value) (hl:news.length=n * i.size) (hnews:∀ j v,news[j]?=some v->w.cell? (a.add j)=some v)
  (h0:0 < n) (h63:(n:Int)<=9223372036854775807) (h48:n * i.bytes<=281474976710656) :
  (Builtin.append_ #[t,t] ty #[.slice xa 0 0,.slice (some a) n c]).run P w =
   .ok (.slice (some ⟨w.heap.size,0,none⟩) n (grownCap w n 0 e)) (w.drew.alloc (.cells (news.toArray ++ Builtin.zeroCells z.cells (grownCap w n 0 e - n)) e)):=by
 cases xa with
 | none=>exact run_append_nil (P:=P) w t ty e i z ht hi hz a n c news hl hnews h0 h63 h48
 | some b =>
  have h:=run_append_grow (P:=P) w t ty e i z ht hi hz b 0 0 [] (by simp) (fun j v h=>by simp at h) a n c news hl hnews (by omega) (by simpa using h63) (by rw [bP,nextslicecap_zero h0]; exact h48)
  simpa using h
theorem qK {t ty e E:TypeId} {i:TypeInfo} (ht:P.underlying t=some (.slice e)) (hi:P.info? e=some i)
  (g sLen sCap:Nat) (cur:Array Value) (hg:jB w g cur E)
  (a:Addr) (m c:Nat) (news:List Value) (hl:news.length=m * i.size) (hnews:∀ j u,news[j]?=some u->w.cell? (a.add j)=some u) (h1:∀ u∈news,u.oneCell'=true)
  (hroom:sLen + m<=sCap) (hfit:sLen * i.size + news.length<=cur.size) :
  (Builtin.append_ #[t,t] ty #[.slice (some ⟨g,0,none⟩) sLen sCap,.slice (some a) m c]).run P w =
   .ok (.slice (some ⟨g,0,none⟩) (sLen + m) sCap) (w.setRow g (cur.toList.take (sLen * i.size) ++ news ++ cur.toList.drop (sLen * i.size + news.length)).toArray):=by
 have hf:=run_firstCells_some (P:=P) w i.size m a m c news hl hnews
 have hst:=jZ P g (sLen * i.size) E news 0 cur w hg (by simpa using hfit) h1
 simp only [bR] at hst
 simp [Builtin.append_,run_underlying ht,sizeOf,typeInfo,hi,Builtin.lenOf,hroom,hf,Addr.add_lit,hst]
end
theorem aCM {es:Nat}:∀ xs ys:D,xs.isL es->(xs.app ys).len=xs.len + ys.len:=by
 intro xs ys
 induction xs with
 | cons a xs ih1 ih2=>intro h; simp only [D.app,D.len,ih2 h.2]; omega
 | nil=>intro _; simp [D.app,D.len]
 | _=>intro h; exact h.elim
theorem aLf {es:Nat}:∀ xs ys:D,xs.isL es->ys.isL es->(xs.app ys).isL es:=by
 intro xs ys
 induction xs with
 | cons a xs ih1 ih2=>intro h hy; exact ⟨h.1,ih2 h.2 hy⟩
 | nil=>intro _ hy; exact hy
 | _=>intro h; exact h.elim
theorem aKY {w:World} {M:Nat->Prop} {es:Nat}:∀ (xs ys:D) (c1 c2:List Value) (f1 f2:List Nat),xs.isL es->xs.rep w M c1 f1->ys.rep w M c2 f2->(xs.app ys).rep w M (c1 ++ c2) (f1 ++ f2):=by
 intro xs ys
 induction xs with
 | cons a xs ih1 ih2 =>
  intro c1 c2 f1 f2 h hx hy
  obtain ⟨d1,d2,g1,g2,rfl,rfl,h1,h2⟩:=hx
  exact ⟨d1,d2 ++ c2,g1,g2 ++ f2,by simp,by simp,h1,ih2 _ _ _ _ h.2 h2 hy⟩
 | nil =>
  intro c1 c2 f1 f2 _ hx hy
  obtain ⟨rfl,rfl⟩:=hx
  exact hy
 | _=>intro c1 c2 f1 f2 h; exact h.elim
def tU (es bytes:Nat) (o:List Ob) (x:SV) (ys:D) (kr:List Nat) (K:SV->List Ob->List Nat->Option Nat->Prop):Prop :=
 match x with
 | .nil=>(ys.len * bytes<=140737488355328/\ys.len<=9223372036854775807)/\K (.own o.length) (o ++ [.val (.sl true es ys)]) kr none
 | .d (.sl true es' .nil)=>es'=es/\(ys.len * bytes<=140737488355328/\ys.len<=9223372036854775807)/\K (.own o.length) (o ++ [.val (.sl true es ys)]) kr none
 | .own r=>∃ xs,o[r]?=some (.val (.sl true es xs))/\((xs.len + ys.len) * bytes<=140737488355328/\xs.len + ys.len<=9223372036854775807)/\K (.own r) ((unT r o).set r (.val (.sl true es (xs.app ys)))) kr (some r)
 | _=>False
def aHa (es bytes:Nat) (o:List Ob) (x y:SV) (K:SV->List Ob->List Nat->Option Nat->Prop):Prop :=
 match y with
 | .d (.sl _ es' ys)=>es'=es/\tU es bytes o x ys [] K
 | .nil=>tU es bytes o x .nil [] K
 | .own q=>∃ ys,o[q]?=some (.val (.sl true es ys))/\x≠.own q/\(if ys.noOwn then tU es bytes o x ys [] K else tU es bytes (o.set q .dead) x ys [q] K)
 | _=>False
def Src (w:World) (M:Nat->Prop) (es:Nat) (v:Value) (ys:D) (fy:List Nat):Prop :=
 ys.isL es/\∃ a c ds,v=.slice a ys.len c/\ys.rep w M ds fy/\(ys.len=0\/∃ ad,a=some ad/\∀ j u,ds[j]?=some u->w.cell? (ad.add j)=some u)
theorem aD3 {w:World} {M:Nat->Prop} {o:Bool} {es:Nat} {ys:D} {v:Value} {cs:List Value} {fp:List Nat} (h:(D.sl o es ys).rep w M cs fp) (hv:v=iU (.sl o es ys) cs) :
  ∃ fy,Src w M es v ys fy/\(∀ b∈fy,b∈fp)/\(fp.Nodup->fy.Nodup):=by
 obtain ⟨hL,a,c,ds,fps,e1,e2,h3,h4⟩:=h
 subst e1
 cases o with
 | false =>
  simp only [aT,if_false] at h4
  obtain ⟨rfl,rfl,h5⟩:=h4
  refine ⟨[],⟨hL,a,c,ds,hv,h3,?_⟩,fun b hb=>hb,fun h=>h⟩
  rcases h5 with h5|⟨ad,h5,h6⟩
  ·exact .inl h5
  ·rcases h6 with h6|h6
   ·exact .inr ⟨ad,h5,fun j u hu=>by rw [h6] at hu; simp at hu⟩
   ·exact .inr ⟨ad,h5,h6.2.2⟩
 | true =>
  simp only [if_true] at h4
  rcases h4 with ⟨h5,rfl,rfl⟩|⟨g,h5,hrow,rfl⟩
  ·exact ⟨[],⟨hL,a,c,ds,hv,h3,.inl (by omega)⟩,fun b hb=>hb,fun h=>h⟩
  ·refine ⟨fps,⟨hL,a,c,ds,hv,h3,.inr ⟨_,h5,?_⟩⟩,fun b hb=>by simp [hb],fun h=>(aF.1 h).2⟩
   have:=kR.of_row (M:=fun _=>False) hrow.1 (fun h=>h)
   rcases this with h6|h6
   ·exact fun j u hu=>by rw [h6] at hu; simp at hu
   ·exact h6.2.2
def wX:Option Nat->jP->jP
 | none,e=>e
 | some r,e=>nY (gQ r) e
theorem aSd {es:Nat}:∀ xs:D,xs.isL es->xs.app .nil=xs:=by
 intro xs
 induction xs with
 | cons a xs ih1 ih2=>intro h; simp only [D.app,ih2 h.2]
 | nil=>intro _; rfl
 | _=>intro h; exact h.elim
theorem aDV {es:Nat} {ys:D} (h:ys.isL es) (h0:ys.len=0):ys=.nil:=by
 cases ys with
 | nil=>rfl
 | cons _ _=>simp [D.len] at h0
 | _=>exact h.elim
theorem aJm (r:Nat) (ks:List Nat) (e:jP) (t:Nat):look (wX (some r) (gN ks e)) t=if gQ r (look e t) || ks.any (fun r=>gQ r (look e t)) then .any else look e t:=by
 simp only [wX]
 rw [lK (gQ r) rfl,nG]
 by_cases h:(ks.any fun r=>gQ r (look e t))=true
 ·rw [h]; simp [gQ,k0]
 ·simp [h]
section
variable {c : Ctx} {o o1 : List Ob} {C C1 : List OC} {w w' : World} {ks L : List Nat}
theorem aAv (w:World) (ob:Obj):mO w (w.drew.alloc ob) :=
 mO.trans (b:=w.drew) ⟨rfl,rfl,rfl,aB _,fun _ _=>rfl⟩ (kL w.drew ob)
theorem aKC {t ty el:TypeId} {i:TypeInfo} {z:Value} {x:SV} {xv yv:Value} {ys:D} {fy:List Nat} {kr:List Nat} {K:SV->List Ob->List Nat->Option Nat->Prop}
  (ht:c.P.underlying t=some (.slice el)) (hi:c.P.info? el=some i) (hz:i.zero=some z) (hzs:z.cells.size=i.size)
  (hw:RelW c o C w) (hl:Loose o C o1 C1 ks L) (hx:dX w (Ms c C) C x xv) (hks:∀ r∈ks,gQ r x=false)
  (hy:Src w (Ms c C) i.size yv ys fy) (hnd:fy.Nodup) (hsub:∀ b∈fy,b∈L) (h:tU i.size i.bytes o1 x ys kr K) :
  ∃ sv o2 kk C' v' w',K sv o2 kr kk/\(Builtin.append_ #[t,t] ty #[xv,yv]).run c.P w=.ok v' w'/\RelW c o2 C' w'/\(∀ (e:jP) (a:Act),gX w c C e a->gX w' c C' (wX kk (gN ks e)) a)/\dX w' (Ms c C') C' sv v':=by
 have hLlt:∀ b∈L,b < w.heap.size:=fun b hb=>hw.lt b (hl.lsub b hb)
 obtain ⟨hyL,ya,yc,dy,rfl,hyr,hyh⟩:=hy
 have hdyl:dy.length=ys.len * i.size:=by rw [dP _ _ _ hyr,aDl _ hyL]
 have hdy1:=qQ _ _ _ hyr
 have empty:∀ (xa:Option Addr),xv=.slice xa 0 0->(ys.len * i.bytes<=140737488355328/\ys.len<=9223372036854775807)/\K (.own o1.length) (o1 ++ [.val (.sl true i.size ys)]) kr none ->
   ∃ sv o2 kk C' v' w',K sv o2 kr kk/\(Builtin.append_ #[t,t] ty #[xv,.slice ya ys.len yc]).run c.P w=.ok v' w'/\RelW c o2 C' w'/\(∀ (e:jP) (a:Act),gX w c C e a->gX w' c C' (wX kk (gN ks e)) a)/\dX w' (Ms c C') C' sv v':=by
  intro xa hx h
  subst hx
  obtain ⟨⟨hb1,hb2⟩,hK⟩:=h
  rcases hyh with h0|⟨ad,rfl,hcell⟩
  ·have hyn:=aDV hyL h0
   subst hyn
   obtain ⟨h1,h2⟩:=hyr
   subst h2
   have hnew:=Loose.new hw hl (ob:=.val (.sl true i.size .nil)) (oc:={ v:=.slice xa 0 0,blk:=0,fp:=[] }) (mO.refl w) aJ (fun b hb=>by cases hb)
    ⟨[.slice xa 0 0],⟨trivial,xa,0,[],[],rfl,aB _,⟨rfl,rfl⟩,by simp⟩,rfl⟩
   refine ⟨_,_,none,_,.slice xa 0 0,w,hK,aDY ht hi xa ya 0 0 yc (aB _),hnew.1,hnew.2,?_⟩
   exact ⟨_,by rw [List.getElem?_append_right (by rw [hl.len]; exact aB _),hl.len,aM]; rfl,rfl⟩
  ·by_cases h0:ys.len=0
   ·have hyn:=aDV hyL h0
    subst hyn
    obtain ⟨h1,h2⟩:=hyr
    subst h2
    have hnew:=Loose.new hw hl (ob:=.val (.sl true i.size .nil)) (oc:={ v:=.slice xa 0 0,blk:=0,fp:=[] }) (mO.refl w) aJ (fun b hb=>by cases hb)
     ⟨[.slice xa 0 0],⟨trivial,xa,0,[],[],rfl,aB _,⟨rfl,rfl⟩,by simp⟩,rfl⟩
    refine ⟨_,_,none,_,.slice xa 0 0,w,hK,aDY ht hi xa (some ad) 0 0 yc (aB _),hnew.1,hnew.2,?_⟩
    exact ⟨_,by rw [List.getElem?_append_right (by rw [hl.len]; exact aB _),hl.len,aM]; rfl,rfl⟩
   ·have hrun:=uN (P:=c.P) (w:=w) (ty:=ty) ht hi hz xa ad ys.len yc dy hdyl hcell (by omega) (by omega) (by omega)
    have hge:=grownCap_ge w ys.len 0 el
    have hx2:=aAv w (.cells (dy.toArray ++ Builtin.zeroCells z.cells (grownCap w ys.len 0 el - ys.len)) el)
    have hrow:jA (w.drew.alloc (.cells (dy.toArray ++ Builtin.zeroCells z.cells (grownCap w ys.len 0 el - ys.len)) el)) w.heap.size (grownCap w ys.len 0 el * i.size) dy:=by
     refine ⟨_,el,jB.new w.drew _ _,?_,by simp⟩
     rw [bJ,aO,size_zeroCells,hdyl,hzs,<-cD]; congr 1; omega
    have hnew:=Loose.new hw hl (ob:=.val (.sl true i.size ys)) (oc:={ v:=.slice (some ⟨w.heap.size,0,none⟩) ys.len (grownCap w ys.len 0 el),blk:=0,fp:=w.heap.size :: fy }) hx2
     (aF.2 ⟨fun hb=>by have:=hLlt _ (hsub _ hb); omega,hnd⟩)
     (fun b hb=>by
      have hs:=hx2.size
      have hs2:w.heap.size < (w.drew.alloc (.cells (dy.toArray ++ Builtin.zeroCells z.cells (grownCap w ys.len 0 el - ys.len)) el)).heap.size:=hrow.lt
      rcases aE.1 hb with hb|hb
      ·exact ⟨.inr (by omega),by omega⟩
      ·exact ⟨.inl (hsub b hb),by have:=hLlt b (hsub b hb); omega⟩)
     ⟨[.slice (some ⟨w.heap.size,0,none⟩) ys.len (grownCap w ys.len 0 el)],⟨hyL,_,_,dy,fy,rfl,hge,eR hx2.size (fun b hb hm=>by
       rcases hm with hm|hm
       ·exact .inl hm
       ·have e:fR (C1 ++ [{ v:=Value.slice (some ⟨w.heap.size,0,none⟩) ys.len (grownCap w ys.len 0 el),blk:=0,fp:=w.heap.size :: fy }])=fR C1 ++ (w.heap.size :: fy):=by simp [fR]
        rw [e,aA,aE] at hm
        rcases hm with hm|hm|hm
        ·exact .inr (hl.fps b hm).1
        ·omega
        ·exact .inr (hl.lsub b (hsub b hm))) _ _ _ (fun b hb _=>hx2.block b hb) hyr,by simp only [if_true]; exact .inr ⟨_,rfl,⟨hrow,fun _=>m6.new w.drew _ _⟩,rfl⟩⟩,rfl⟩
    refine ⟨_,_,none,_,_,_,hK,hrun,hnew.1,hnew.2,?_⟩
    exact ⟨_,by rw [List.getElem?_append_right (by rw [hl.len]; exact aB _),hl.len,aM]; rfl,rfl⟩
 cases x with
 | nil=>exact empty none hx h
 | d q =>
  unfold tU at h
  split at h
  ·cases ‹SV.d q=.nil›
  ·rename_i es' hq
   injection hq with hq
   subst hq
   obtain ⟨rfl,h⟩:=h
   obtain ⟨cs,⟨_,xa,cc,ds,fps,e1,e2,h3,h4⟩,hp⟩:=hx
   simp only [if_true] at h4
   rcases h4 with ⟨rfl,_,_⟩|⟨g,_,_,h4⟩
   ·exact empty xa (by rw [hp,e1]; rfl) h
   ·cases h4
  ·cases ‹SV.d q=.own _›
  ·exact h.elim
 | own r =>
  obtain ⟨xs,h1,⟨hb1,hb2⟩,hK⟩:=h
  have hnt:sO r (Go.Pe.unT r o1)=true:=aGf o1
  have h1:(Go.Pe.unT r o1)[r]?=some (.val (.sl true i.size xs)):=by rw [xK,h1]; rfl
  have hw:=hw.unT r
  have hl:=hl.unT r
  obtain ⟨oc,h2,rfl⟩:=hx
  have hrk:r ∉ ks:=fun hk=>by have:=hks r hk; simp [gQ,k0] at this
  obtain ⟨oc1,h3,_,_,h4⟩:=hl.same r oc h2
  have:=h4 hrk
  subst this
  rcases hl.obs r _ oc1 h1 h3 with ⟨h5,h6,_⟩|⟨h5,_⟩
  case inr=>cases h5
  have hnd1:=(eE.1 hl.nodup).1 r oc1 h3
  have hin:∀ b∈oc1.fp,b∈fR C1:=fun b hb=>dG.2 ⟨r,oc1,h3,hb⟩
  obtain ⟨xa,xc,hov,hrep⟩:=xE hw h5 h6
  have hrep0:=hrep
  obtain ⟨hL,a',c',dx,fx,e1,e2,hxr,h7⟩:=hrep
  injection e1 with e1 _
  injection e1 with ea _ ec
  subst ea ec
  simp only [if_true] at h7
  have hdxl:dx.length=xs.len * i.size:=by rw [dP _ _ _ hxr,aDl _ hL]
  -- a world and a value in which the object holds both
  have fin:∀ (v':Value) (w':World) (X:Nat->Prop) (fp':List Nat),(Builtin.append_ #[t,t] ty #[oc1.v,.slice ya ys.len yc]).run c.P w=.ok v' w'->Went w w' X->(∀ b,X b->b∈oc1.fp)->fp'.Nodup ->
    (∀ b∈fp',(b∈oc1.fp\/b∈L\/w.heap.size<=b)/\b < w'.heap.size) ->
    (∀ (M':Nat->Prop),(∀ b,b < w.heap.size->M' b->Ms c C b)->∃ cs,(D.sl true i.size (xs.app ys)).rep w' M' cs fp'/\v'=iU (.sl true i.size (xs.app ys)) cs) ->
    ∃ sv o2 kk C' v' w',K sv o2 kr kk/\(Builtin.append_ #[t,t] ty #[oc1.v,.slice ya ys.len yc]).run c.P w=.ok v' w'/\RelW c o2 C' w'/\(∀ (e:jP) (a:Act),gX w c C e a->gX w' c C' (wX kk (gN ks e)) a)/\dX w' (Ms c C') C' sv v':=by
   intro v' w' X fp' hrun hwent hX hn hs hr
   have hr2:=c6 h3
   have hM':∀ b,b < w.heap.size->Ms c (C1.set r { v:=v',blk:=oc1.blk,fp:=fp' }) b->Ms c C b:=by
    intro b hb hm
    rcases hm with hm|hm
    ·exact .inl hm
    ·obtain ⟨j,od,hj,hb'⟩:=dG.1 hm
     rw [List.getElem?_set] at hj
     by_cases e:r=j
     ·rw [if_pos e,if_pos (by omega)] at hj
      injection hj with hj
      subst hj
      rcases (hs b hb').1 with h|h|h
      ·exact .inr (hl.fps b (hin b h)).1
      ·exact .inr (hl.lsub b h)
      ·omega
     ·rw [if_neg e] at hj
      exact .inr (hl.fps b (dG.2 ⟨j,od,hj,hb'⟩)).1
   have hput:=Loose.put hw hl (ob':=.val (.sl true i.size (xs.app ys))) (oc':={ v:=v',blk:=oc1.blk,fp:=fp' }) h1 h3 hwent hX hn hs (hr _ hM') (.inr hnt)
   refine ⟨_,_,some r,_,v',w',hK,hrun,hput.1,fun e a he=>hput.2 e a (gQ r) _ he (.inr fun s hs=>hs) (aJm r ks e),?_⟩
   exact ⟨{ v:=v',blk:=oc1.blk,fp:=fp' },by rw [List.getElem?_set]; simp [hr2],rfl⟩
  rw [hov] at fin ⊢
  by_cases h0:ys.len=0
  ·have hyn:=aDV hyL h0
   subst hyn
   obtain ⟨hd0,hf0⟩:=hyr
   subst hf0
   refine fin _ w (fun _=>False) oc1.fp (aDY ht hi xa ya xs.len xc yc e2) (aZH (mO.refl w) _) (fun b h=>h.elim) hnd1 (fun b hb=>⟨.inl hb,hw.lt b (hl.fps b (hin b hb)).1⟩) (fun M' hM=>?_)
   rw [aSd _ hL]
   exact ⟨_,eR (aB _) hM _ _ _ (fun _ _ _=>rfl) hrep0,rfl⟩
  ·rcases hyh with hyh|⟨ad,rfl,hcell⟩
   ·omega
   have grow : ∀ (old : Nat), old < xs.len + ys.len -> (Builtin.append_ #[t, t] ty #[.slice xa xs.len xc, .slice (some ad) ys.len yc]).run c.P w =
      .ok (.slice (some ⟨w.heap.size,0,none⟩) (xs.len + ys.len) (grownCap w (xs.len + ys.len) old el)) (w.drew.alloc (.cells (dx.toArray ++ dy.toArray ++ Builtin.zeroCells z.cells (grownCap w (xs.len + ys.len) old el - (xs.len + ys.len))) el))->(∀ b∈fx,b∈oc1.fp)->fx.Nodup ->
     ∃ sv o2 kk C' v' w',K sv o2 kr kk/\(Builtin.append_ #[t,t] ty #[.slice xa xs.len xc,.slice (some ad) ys.len yc]).run c.P w=.ok v' w'/\RelW c o2 C' w'/\(∀ (e:jP) (a:Act),gX w c C e a->gX w' c C' (wX kk (gN ks e)) a)/\dX w' (Ms c C') C' sv v':=by
    intro old hold hrun hfx hfxn
    have hge:=grownCap_ge w (xs.len + ys.len) old el
    have hx2:=aAv w (.cells (dx.toArray ++ dy.toArray ++ Builtin.zeroCells z.cells (grownCap w (xs.len + ys.len) old el - (xs.len + ys.len))) el)
    have hrow:jA (w.drew.alloc (.cells (dx.toArray ++ dy.toArray ++ Builtin.zeroCells z.cells (grownCap w (xs.len + ys.len) old el - (xs.len + ys.len))) el)) w.heap.size (grownCap w (xs.len + ys.len) old el * i.size) (dx ++ dy):=by
     refine ⟨_,el,jB.new w.drew _ _,?_,by rw [bV,bV]; exact bH⟩
     rw [bJ,bJ,aO,aO,size_zeroCells,hdxl,hdyl,hzs,<-cD,<-cD]; congr 1; omega
    have hlt:∀ b∈fx ++ fy,b < w.heap.size:=by
     intro b hb
     rcases aA.1 hb with hb|hb
     ·exact hw.lt b (hl.fps b (hin b (hfx b hb))).1
     ·exact hLlt b (hsub b hb)
    refine fin _ _ (fun _=>False) (w.heap.size :: (fx ++ fy)) hrun (aZH hx2 _) (fun b h=>h.elim) ?_ ?_ ?_
    ·refine aF.2 ⟨fun hb=>by have:=hlt _ hb; omega,aC.2 ⟨hfxn,hnd,fun b hb d hd e=>?_⟩⟩
     subst e
     exact (hl.fps b (hin b (hfx b hb))).2 (hsub b hd)
    ·intro b hb
     have hs:=hx2.size
     have hs2:=hrow.lt
     rcases aE.1 hb with hb|hb
     ·exact ⟨.inr (.inr (by omega)),by omega⟩
     ·have:=hlt b hb
      rcases aA.1 hb with hb|hb
      ·exact ⟨.inl (hfx b hb),by omega⟩
      ·exact ⟨.inr (.inl (hsub b hb)),by omega⟩
    ·intro M' hM
     refine ⟨[.slice (some ⟨w.heap.size,0,none⟩) (xs.len + ys.len) (grownCap w (xs.len + ys.len) old el)],⟨aLf _ _ hL hyL,some ⟨w.heap.size,0,none⟩,grownCap w (xs.len + ys.len) old el,dx ++ dy,fx ++ fy,by rw [aCM _ _ hL],by rw [aCM _ _ hL]; exact hge,?_,?_⟩,rfl⟩
     ·exact eR hx2.size hM _ _ _ (fun b hb _=>hx2.block b hb) (aKY _ _ _ _ _ _ hL hxr hyr)
     ·simp only [if_true]; exact .inr ⟨_,rfl,⟨hrow,fun _=>m6.new w.drew _ _⟩,rfl⟩
   rcases h7 with ⟨rfl,rfl,hfp⟩|⟨g,rfl,hrow,hfp⟩
   ·have hxl:xs.len=0:=by omega
    have hdx:dx=[]:=aX (by rw [hdxl,hxl]; simp)
    refine grow 0 (by omega) ?_ (fun b hb=>by cases hb) aJ
    have hrun:=uN (P:=c.P) (w:=w) (ty:=ty) ht hi hz xa ad ys.len yc dy hdyl hcell (by omega) (by omega) (by rw [hxl] at hb1; simp only [bP] at hb1; omega)
    rw [hxl,hdx]
    simp only [bP]
    rw [hrun]
    simp
   ·have hfxn:fx.Nodup:=by rw [hfp] at hnd1; exact (aF.1 hnd1).2
    have hgx:g ∉ fx:=by rw [hfp] at hnd1; exact (aF.1 hnd1).1
    obtain ⟨⟨cur,E,hcur,hsz,htk⟩,hnm⟩:=hrow
    by_cases hroom:xs.len + ys.len<=xc
    ·have hfit:xs.len * i.size + dy.length<=cur.size:=by rw [hdyl,hsz,<-cD]; exact Nat.mul_le_mul_right _ hroom
     have hrun:=qK (P:=c.P) (ty:=ty) ht hi g xs.len xc cur hcur ad ys.len yc dy hdyl hcell hdy1 hroom hfit
     have hnew:cur.toList.take (xs.len * i.size) ++ dy ++ cur.toList.drop (xs.len * i.size + dy.length)=dx ++ dy ++ cur.toList.drop (xs.len * i.size + dy.length):=by rw [<- hdxl,htk]
     have hgfy:g ∉ fy:=fun hb=>(hl.fps g (hin g (by rw [hfp]; simp))).2 (hsub g hb)
     refine fin _ _ (fun b=>b=g) (g :: (fx ++ fy)) hrun (gI w _ _) (fun b hb=>by rw [hb,hfp]; simp) ?_ ?_ ?_
     ·refine aF.2 ⟨fun hb=>by rcases aA.1 hb with hb|hb; exact hgx hb; exact hgfy hb,aC.2 ⟨hfxn,hnd,fun b hb d hd e=>?_⟩⟩
      subst e
      exact (hl.fps b (hin b (by rw [hfp]; simp [hb]))).2 (hsub b hd)
     ·intro b hb
      simp only [setRow_size]
      rcases aE.1 hb with hb|hb
      ·subst hb; exact ⟨.inl (by rw [hfp]; simp),hw.lt b (hl.fps b (hin b (by rw [hfp]; simp))).1⟩
      ·rcases aA.1 hb with hb|hb
       ·exact ⟨.inl (by rw [hfp]; simp [hb]),hw.lt b (hl.fps b (hin b (by rw [hfp]; simp [hb]))).1⟩
       ·exact ⟨.inr (.inl (hsub b hb)),hLlt b (hsub b hb)⟩
     ·intro M' hM
      refine ⟨[.slice (some ⟨g,0,none⟩) (xs.len + ys.len) xc],⟨aLf _ _ hL hyL,some ⟨g,0,none⟩,xc,dx ++ dy,fx ++ fy,by rw [aCM _ _ hL],by rw [aCM _ _ hL]; exact hroom,?_,?_⟩,rfl⟩
      ·refine eR (by simp) hM _ _ _ (fun b hb hx=>setRow_other w g b _ fun e=>?_) (aKY _ _ _ _ _ _ hL hxr hyr)
       subst e
       rcases hx with hx|hx
       ·rcases aA.1 hx with hx|hx
        ·exact hgx hx
        ·exact hgfy hx
       ·exact hx (.inr (hl.fps b (hin b (by rw [hfp]; simp))).1)
      ·simp only [if_true]
       refine .inr ⟨g,rfl,⟨⟨_,E,hcur.set (by simp only [aO,aD,aK,aR,aH]; omega),?_,?_⟩,fun he=>(hnm he).set hcur⟩,rfl⟩
       ·rw [<- hsz]
        simp only [aO,aD,aK,aR]
        have:cur.toList.length=cur.size:=by simp
        omega
       ·rw [hnew]
        show (dx ++ dy ++ _).take (dx ++ dy).length=_
        rw [bH]
    ·have hcell0:∀ j u,dx[j]?=some u->w.cell? ((⟨g,0,none⟩:Addr).add j)=some u:=by
      have:=kR.of_row (M:=fun _=>False) (⟨cur,E,hcur,hsz,htk⟩:jA w g _ dx) (fun h=>h)
      rcases this with h8|h8
      ·exact fun j u hu=>by rw [h8] at hu; simp at hu
      ·exact h8.2.2
     exact grow xc (by omega) (run_append_grow (P:=c.P) w t ty el i z ht hi hz ⟨g,0,none⟩ xs.len xc dx hdxl hcell0 ad ys.len yc dy hdyl hcell (by omega) (by omega) (growslice_fits (by omega) hb1)) (fun b hb=>by rw [hfp]; simp [hb]) hfxn
 | _=>exact h.elim
end
section
variable {c : Ctx} {o : List Ob} {C : List OC} {w : World}
def aKl (lo:Nat) (z xs:D):D:=(xs.takeD lo).app (kN (aP (xs.len - lo) z))
theorem aNd (hw:RelW c o C w) {r es lo:Nat} {xv:Value} {xs z:D} {zc:Array Value} (hxv:dX w (Ms c C) C (.win r es lo) xv) (h1:o[r]?=some (.val (.sl true es xs)))
  (hz:∀ (w:World) (M:Nat->Prop),z.rep w M zc.toList []) (hzs:z.size=es) :
  ∃ C' g cur E n cp,xv=.slice (some ⟨g,lo * es,none⟩) n cp/\n≠0/\jB w g cur E/\lo * es + n * es<=cur.size /\
   RelW c (o.set r (.val (.sl true es (aKl lo z xs)))) C' (w.setRow g (cur.toList.take (lo * es) ++ (madeCells zc (n * es)).toList ++ cur.toList.drop (lo * es + (madeCells zc (n * es)).toList.length)).toArray) /\
   ∀ (e:jP) (a:Act),gX w c C e a->gX (w.setRow g (cur.toList.take (lo * es) ++ (madeCells zc (n * es)).toList ++ cur.toList.drop (lo * es + (madeCells zc (n * es)).toList.length)).toArray) c C' (nY (gP r) e) a:=by
 have hzl:zc.size=es:=by rw [<- aH,dP _ _ _ (hz w (Ms c C)),hzs]
 obtain ⟨oc,g,n,cp,h2,hov,hlt,hnc,rfl⟩:=hxv
 obtain ⟨cs,hrep,hpk⟩:=hw.obs r _ oc h1 h2
 obtain ⟨hL,a',c',ds,fps,e1,e2,hr,h7⟩:=hrep
 rw [hov,e1] at hpk
 simp only [iU,bA] at hpk
 injection hpk with ha hn hc
 subst ha hn hc
 simp only [if_true] at h7
 rcases h7 with ⟨h7,_⟩|⟨g',h7,hrow,hfp⟩
 ·omega
 injection h7 with h7
 injection h7 with h7
 subst h7
 obtain ⟨⟨cur,E,hcur,hsz,htk⟩,hnm⟩:=hrow
 have hnd:=(eE.1 hw.nodup).1 r oc h2
 rw [hfp] at hnd
 obtain ⟨hgf,hnf⟩:=aF.1 hnd
 have hin:∀ b∈oc.fp,b∈fR C:=fun b hb=>dG.2 ⟨r,oc,h2,hb⟩
 obtain ⟨q,rfl⟩:=nJ _ hL
 have hu:=(jX q).1 hL
 rw [fM] at *
 have hsp:q=q.take lo ++ q.drop lo:=(bC lo q).symm
 have hr':=hr
 rw [hsp] at hr'
 obtain ⟨c1,c2,f1,f2,rfl,hf,hr1,hr2⟩:=(gE _ _ _ _).1 hr'
 have l1:c1.length=lo * es:=by
  rw [dP _ _ _ hr1,lD _ (fun y hy=>hu y (bU hy)),aK,bF (by omega)]
 have l2:c2.length=(q.length - lo) * es:=by
  rw [dP _ _ _ hr2,lD _ (fun y hy=>hu y (List.mem_of_mem_drop hy)),aR]
 have lz:(madeCells zc ((q.length - lo) * es)).toList.length=(q.length - lo) * es:=by rw [aH,size_madeCells]
 have hfit0:(c1 ++ c2).length<=cur.toList.length:=by
  have:=congrArg bAl htk
  simp only [aK] at this
  omega
 have hfit:lo * es + (q.length - lo) * es<=cur.size:=by
  rw [aD,l1,l2,aH] at hfit0
  exact hfit0
 have hnew:(cur.toList.take (lo * es) ++ (madeCells zc ((q.length - lo) * es)).toList ++ cur.toList.drop (lo * es + (madeCells zc ((q.length - lo) * es)).toList.length)).take (c1 ++ (madeCells zc ((q.length - lo) * es)).toList).length=c1 ++ (madeCells zc ((q.length - lo) * es)).toList:=by
  have e0:(c1 ++ (madeCells zc ((q.length - lo) * es)).toList).length=(c1 ++ c2).length:=by rw [aD,aD,lz,l2]
  rw [e0,aB2 _ _ _ _ (by rw [lz,aD,l1,l2]; exact aB _) hfit0,htk,<-l1,bH,lz]
  have:(c1 ++ c2).drop (c1.length + (q.length - lo) * es)=[]:=List.drop_eq_nil_of_le (by rw [aD,l2]; exact aB _)
  rw [this,aU]
 have hM':∀ b,Ms c (C.set r { v:=oc.v,blk:=oc.blk,fp:=g :: f1 }) b->Ms c C b:=by
  intro b h
  rcases h with h|h
  ·exact .inl h
  ·obtain ⟨j,od,hj,hb'⟩:=dG.1 h
   rw [List.getElem?_set] at hj
   by_cases e:r=j
   ·rw [if_pos e,if_pos (by have:=c6 h2; omega)] at hj
    injection hj with hj
    subst hj
    refine .inr (hin b ?_)
    rw [hfp,hf]
    rcases aE.1 hb' with hb|hb
    ·simp [hb]
    ·simp [hb]
   ·rw [if_neg e] at hj
    exact .inr (dG.2 ⟨j,od,hj,hb'⟩)
 have hg1:g ∉ f1:=fun hb=>hgf (by rw [hf]; simp [hb])
 have hput:=Loose.put hw (Loose.refl hw) (r:=r) (ob':=.val (.sl true es (aKl lo z (kN q)))) (oc':={ v:=oc.v,blk:=oc.blk,fp:=g :: f1 }) (X:=fun b=>b=g)
  (w':=w.setRow g (cur.toList.take (lo * es) ++ (madeCells zc ((q.length - lo) * es)).toList ++ cur.toList.drop (lo * es + (madeCells zc ((q.length - lo) * es)).toList.length)).toArray) h1 h2 (gI w _ _) (fun b hb=>by rw [hb,hfp]; simp) ?_ ?_ ?_ (.inl rfl)
 ·refine ⟨_,g,cur,E,q.length - lo,cp - lo,rfl,by omega,hcur,hfit,hput.1,fun e a he=>?_⟩
  exact hput.2 e a (gP r) _ he (.inl ⟨rfl,rfl,fun s hs=>hs⟩) (zU r [] e)
 ·refine aF.2 ⟨hg1,?_⟩
  rw [hf] at hnf
  exact (aC.1 hnf).1
 ·intro b hb
  simp only [setRow_size]
  have hb':b∈oc.fp:=by
   rw [hfp,hf]
   rcases aE.1 hb with hb|hb
   ·simp [hb]
   ·simp [hb]
  exact ⟨.inl hb',hw.lt b (hin b hb')⟩
 ·have hcl:aKl lo z (kN q)=kN (q.take lo ++ aP (q.length - lo) z):=by
   unfold aKl
   rw [jT,aGB,fM]
  have hlen:(q.take lo ++ aP (q.length - lo) z).length=q.length:=by simp; omega
  rw [hcl]
  refine ⟨[.slice (some ⟨g,0,none⟩) q.length cp],⟨(jX _).2 fun y hy=>?_,some ⟨g,0,none⟩,cp,c1 ++ (madeCells zc ((q.length - lo) * es)).toList,f1,by rw [fM,hlen],by rw [fM,hlen]; exact hnc,?_,?_⟩,by rw [hov]; rfl⟩
  ·rcases aA.1 hy with hy|hy
   ·exact hu y (bU hy)
   ·rw [(bG.1 hy).2]; exact hzs
  ·refine (gE _ _ _ _).2 ⟨c1,_,f1,[],rfl,by simp,?_,by have:=aAC (hz (w.setRow g (cur.toList.take (lo * es) ++ (madeCells zc ((q.length - lo) * es)).toList ++ cur.toList.drop (lo * es + (madeCells zc ((q.length - lo) * es)).toList.length)).toArray) (Ms c (C.set r { v:=oc.v,blk:=oc.blk,fp:=g :: f1 }))) (q.length - lo); rw [hzl] at this; exact this⟩
   refine eR (by simp) (fun b _ h=>hM' b h) _ _ _ (fun b hb hx=>setRow_other w g b _ fun e=>?_) hr1
   subst e
   rcases hx with hx|hx
   ·exact hg1 hx
   ·exact hx (.inr (hin b (by rw [hfp]; simp)))
  ·simp only [if_true]
   refine .inr ⟨g,rfl,⟨⟨_,E,hcur.set (by simp only [aO,aD,aK,aR,lz,aH]; simp only [aH] at *; omega),?_,hnew⟩,fun he=>(hnm he).set hcur⟩,rfl⟩
   rw [<- hsz]
   simp only [aO,aD,aK,aR,lz]
   have:cur.toList.length=cur.size:=by simp
   omega
theorem aHf {P:Program} {t ty e E:TypeId} {i:TypeInfo} {z:Value} (ht:P.underlying t=some (.slice e)) (hi:P.info? e=some i) (hz:i.zero=some z) {g off n cp:Nat} {cur:Array Value} (hn:n≠0)
  (hg:jB w g cur E) (hfit:off + n * z.cells.size<=cur.size) (h1:∀ u∈z.cells.toList,u.oneCell'=true) :
  (Builtin.clear_ #[t] ty #[.slice (some ⟨g,off,none⟩) n cp]).run P w=.ok (.tuple #[]) (w.setRow g (cur.toList.take off ++ (madeCells z.cells (n * z.cells.size)).toList ++ cur.toList.drop (off + (madeCells z.cells (n * z.cells.size)).toList.length)).toArray):=by
 have hzc:Builtin.zeroCells z.cells n=madeCells z.cells (n * z.cells.size):=rfl
 have hall:∀ u∈(madeCells z.cells (n * z.cells.size)).toList,u.oneCell'=true:=by
  intro u hu
  unfold madeCells at hu
  simp only [bM,aZ5,List.mem_map,bAh] at hu
  obtain ⟨k,hk,rfl⟩:=hu
  have hp:0 < z.cells.size:=by
   rcases Nat.eq_zero_or_pos z.cells.size with h|h
   ·rw [h] at hk; omega
   ·exact h
  have hlt:=Nat.mod_lt k hp
  rw [getElem!_pos z.cells _ hlt]
  exact h1 _ (by simp)
 have hst:=jZ P g off E (madeCells z.cells (n * z.cells.size)).toList 0 cur w hg (by simpa [size_madeCells] using hfit) hall
 simp only [bR] at hst
 have hzr:(zeroValue e).run P w=.ok z w:=by simp [zeroValue,typeInfo,program,bAi,hi,hz]
 obtain ⟨m,rfl⟩:∃ m,n=m + 1:=⟨n - 1,by omega⟩
 simp [Builtin.clear_,run_underlying ht,hzr,hzc,hst]
end
section
variable {c : Ctx} {o : List Ob} {C : List OC} {w : World}
theorem aHk (hw:RelW c o C w) {r:Nat} {x y:D} {oc:OC} {cs:List Value} {fp:List Nat} (h1:o[r]?=some (.val x)) (h2:C[r]?=some oc) (h1c:oc.v.oneCell'=true)
  (hy:y.rep w (Ms c C) cs fp) (hsub:∀ b∈fp,b∈oc.fp) (hnd:fp.Nodup) :
  RelW c (o.set r (.val (.lnk 0 oc.v)) ++ [.val y]) (C.set r { oc with fp:=[] } ++ [{ v:=iU y cs,blk:=0,fp:=fp }]) w /\
   ∀ (e:jP) (a:Act),gX w c C e a->gX w c (C.set r { oc with fp:=[] } ++ [{ v:=iU y cs,blk:=0,fp:=fp }]) (nY (gP r) e) a:=by
 have hrl:=c6 h2
 have hol:=c6 h1
 have hlen:=hw.len
 have hnC:=eE.1 hw.nodup
 generalize hC':C.set r { oc with fp:=[] } ++ [({ v:=iU y cs,blk:=0,fp:=fp }:OC)]=C'
 have get:∀ (j:Nat) (od:OC),C'[j]?=some od->(j=r/\od={ oc with fp:=[] })\/(j≠r/\j < C.length/\C[j]?=some od)\/(j=C.length/\od={ v:=iU y cs,blk:=0,fp:=fp }):=by
  intro j od hj
  rw [<- hC'] at hj
  rcases bAk j C.length with hjl|hjl
  ·rw [List.getElem?_append_left (by simpa using hjl),List.getElem?_set] at hj
   by_cases e:r=j
   ·rw [if_pos e,if_pos (by omega)] at hj; injection hj with hj; exact .inl ⟨e.symm,hj.symm⟩
   ·rw [if_neg e] at hj; exact .inr (.inl ⟨fun h=>e h.symm,hjl,hj⟩)
  ·rw [List.getElem?_append_right (by simpa using hjl)] at hj
   simp only [cA] at hj
   have h0:=c6 hj
   simp only [aZ2] at h0
   have e:j=C.length:=by omega
   subst e
   simp only [aM,List.getElem?_cons_zero,Option.some.injEq] at hj
   exact .inr (.inr ⟨rfl,hj.symm⟩)
 have hsubC:∀ b∈fR C',b∈fR C:=by
  intro b hb
  obtain ⟨j,od,hj,hb'⟩:=dG.1 hb
  rcases get j od hj with ⟨_,rfl⟩|⟨_,_,hj⟩|⟨_,rfl⟩
  ·cases hb'
  ·exact dG.2 ⟨j,od,hj,hb'⟩
  ·exact dG.2 ⟨r,oc,h2,hsub b hb'⟩
 have hM:∀ b,Ms c C' b->Ms c C b:=fun b h=>h.imp id (hsubC b)
 have hmem:∀ b∈fR C',(b∈fR C\/w.heap.size<=b)/\b < w.heap.size:=fun b hb=>⟨.inl (hsubC b hb),hw.lt b (hsubC b hb)⟩
 have hg:=aZH (mO.refl w) (fun _=>False)
 have hX:∀ b,(fun _=>False:Nat->Prop) b->b∈fR C:=fun b hb=>hb.elim
 have hval:∀ (q:Nat) (od:OC),C[q]?=some od->∃ oc',C'[q]?=some oc'/\oc'.v=od.v/\oc'.blk=od.blk:=by
  intro q od h
  have hq:=c6 h
  rw [<- hC',List.getElem?_append_left (by simpa using hq),List.getElem?_set]
  by_cases e:r=q
  ·subst e
   rw [h2] at h
   injection h with h
   subst h
   exact ⟨{ oc with fp:=[] },by simp [hrl],rfl,rfl⟩
  ·exact ⟨od,by rw [if_neg e]; exact h,rfl,rfl⟩
 have hobs:∀ (j:Nat) (ob:Ob),(o.set r (.val (.lnk 0 oc.v)) ++ [Ob.val y])[j]?=some ob->(j=r/\ob=.val (.lnk 0 oc.v))\/(j≠r/\j < C.length/\o[j]?=some ob)\/(j=C.length/\ob=.val y):=by
  intro j ob hj
  rcases bAk j C.length with hjl|hjl
  ·rw [List.getElem?_append_left (by simp; omega),List.getElem?_set] at hj
   by_cases e:r=j
   ·rw [if_pos e,if_pos (by omega)] at hj; injection hj with hj; exact .inl ⟨e.symm,hj.symm⟩
   ·rw [if_neg e] at hj; exact .inr (.inl ⟨fun h=>e h.symm,hjl,hj⟩)
  ·rw [List.getElem?_append_right (by simp; omega)] at hj
   simp only [cA] at hj
   have h0:=c6 hj
   simp only [aZ2] at h0
   have e:j=C.length:=by omega
   subst e
   rw [hlen] at hj
   simp only [aM,List.getElem?_cons_zero,Option.some.injEq] at hj
   exact .inr (.inr ⟨rfl,hj.symm⟩)
 refine ⟨hw.upd hg hX (by rw [<- hC']; simp [hlen]) ?_ ?_ hmem (fun p q v hp=>?_) (fun p q v od _ h=>?_),fun e a he=>?_⟩
 ·intro j ob ocj k1 k2
  rcases hobs j ob k1 with ⟨rfl,rfl⟩|⟨hne,hjl,k3⟩|⟨hjl,rfl⟩
  ·rcases get j ocj k2 with ⟨_,rfl⟩|⟨hne,_⟩|⟨e,_⟩
   ·exact .inr ⟨[oc.v],⟨rfl,h1c,rfl⟩,rfl⟩
   ·exact absurd rfl hne
   ·omega
  ·rcases get j ocj k2 with ⟨e,_⟩|⟨_,_,k4⟩|⟨e,_⟩
   ·exact absurd e hne
   ·exact .inl ⟨k3,k4,fun _ _ h=>h⟩
   ·omega
  ·rcases get j ocj k2 with ⟨e,_⟩|⟨_,k4,_⟩|⟨_,rfl⟩
   ·omega
   ·omega
   ·exact .inr ⟨cs,eR (aB _) (fun b _ h=>hM b h) _ _ _ (fun _ _ _=>rfl) hy,rfl⟩
 ·refine eE.2 ⟨fun j od hj=>?_,fun j i od oe hne hj hi b hb hb'=>?_⟩
  ·rcases get j od hj with ⟨_,rfl⟩|⟨_,_,hj⟩|⟨_,rfl⟩
   ·exact aJ
   ·exact hnC.1 j od hj
   ·exact hnd
  ·rcases get j od hj with ⟨_,rfl⟩|⟨n1,_,hj⟩|⟨e1,rfl⟩
   ·cases hb
   ·rcases get i oe hi with ⟨_,rfl⟩|⟨_,_,hi⟩|⟨_,rfl⟩
    ·cases hb'
    ·exact hnC.2 j i od oe hne hj hi b hb hb'
    ·exact hnC.2 j r od oc n1 hj h2 b hb (hsub b hb')
   ·rcases get i oe hi with ⟨_,rfl⟩|⟨n2,_,hi⟩|⟨e2,_⟩
    ·cases hb'
    ·exact hnC.2 i r oe oc n2 hi h2 b hb' (hsub b hb)
    ·omega
 ·rcases hobs p _ hp with ⟨_,h⟩|⟨_,_,h⟩|⟨_,h⟩
  ·cases h
  ·exact .inl h
  ·cases h
 ·obtain ⟨oc',k1,k2,_⟩:=hval q od h
  exact ⟨oc',k1,k2⟩
 ·refine gX.upd (f:=gP r) hg hX hmem (fun sv q od _ _ h=>hval q od h) ?_ (fun t=>lK (gP r) rfl _ t) he
  intro sv q od od' hf hv k1 k2 k3
  have hne:q≠r:=by
   intro e
   subst e
   rw [hf] at hv
   cases hv
  rcases get q od' k3 with ⟨e,_⟩|⟨_,_,k4⟩|⟨e,_⟩
  ·exact absurd e hne
  ·rw [k1] at k4
   injection k4 with k4
   subst k4
   exact ⟨k2,fun h=>h⟩
  ·have:=c6 k1
   omega
theorem aRB {M:Nat->Prop} {es b n cp:Nat} {xs:D} {a:Option Addr} {fp:List Nat} (h:(D.sl true es xs).rep w M [.slice a n cp] fp) (hb:b<=xs.len) :
  ∃ fp',(D.sl true es (xs.takeD b)).rep w M [.slice a b cp] fp'/\n=xs.len/\(∀ x∈fp',x∈fp)/\(fp.Nodup->fp'.Nodup):=by
 obtain ⟨hL,a',c',ds,fps,e1,e2,hr,h7⟩:=h
 injection e1 with e1 _
 injection e1 with ea en ec
 subst ea en ec
 obtain ⟨q,rfl⟩:=nJ _ hL
 have hu:=(jX q).1 hL
 rw [fM] at *
 have hsp:q=q.take b ++ q.drop b:=(bC b q).symm
 have hr':=hr
 rw [hsp] at hr'
 obtain ⟨c1,c2,f1,f2,rfl,hf,hr1,hr2⟩:=(gE _ _ _ _).1 hr'
 have hlt:(q.take b).length=b:=by simp; omega
 simp only [if_true] at h7
 have hL':(kN (q.take b)).isL es:=(jX _).2 (fun y hy=>hu y (bU hy))
 rcases h7 with ⟨hc,hf0,hf1⟩|⟨g,ha,hrow,hf1⟩
 ·have h0:f1=[]/\f2=[]:=by rw [hf] at hf0; exact cE.1 hf0
  obtain ⟨rfl,rfl⟩:=h0
  refine ⟨[],⟨by rw [jT]; exact hL',a,cp,c1,[],by rw [jT,fM,hlt],by rw [jT,fM,hlt]; omega,by rw [jT]; exact hr1,?_⟩,rfl,by simp,fun _=>aJ⟩
  simp only [if_true]
  exact .inl ⟨hc,by simp,by simp⟩
 ·refine ⟨g :: f1,⟨by rw [jT]; exact hL',a,cp,c1,f1,by rw [jT,fM,hlt],by rw [jT,fM,hlt]; omega,by rw [jT]; exact hr1,?_⟩,rfl,?_,?_⟩
  ·simp only [if_true]
   refine .inr ⟨g,ha,?_,rfl⟩
   obtain ⟨⟨cur,E,k1,k2,k3⟩,hnm⟩:=hrow
   refine ⟨⟨cur,E,k1,k2,?_⟩,hnm⟩
   have:=congrArg (List.take c1.length) k3
   rw [bW,bH,aD,bF (by omega)] at this
   exact this
  ·intro x hx
   rw [hf1,hf]
   rcases aE.1 hx with hx|hx
   ·simp [hx]
   ·simp [hx]
  ·intro hn
   rw [hf1,hf] at hn
   obtain ⟨n1,n2⟩:=aF.1 hn
   exact aF.2 ⟨fun h=>n1 (by simp [h]),(aC.1 n2).1⟩
end
def eG:List D->List Ob->List SV×List Ob
 | [],o=>([],o)
 | x :: xs,o=>if x.noOwn then (.d x :: (eG xs o).1,(eG xs o).2) else (.own o.length :: (eG xs (o ++ [.val x])).1,(eG xs (o ++ [.val x])).2)
def n8:List SV->SV
 | [s]=>s
 | ss=>.tup ss
section
variable {c : Ctx} {o : List Ob} {C : List OC} {w w' : World} {M : Nat -> Prop}
theorem aWn (hw:RelW c o C w) {obs:List Ob} {ocs:List OC} (hx:mO w w') (hlen:obs.length=ocs.length) (hfp:(fR ocs).Nodup) (hsub:∀ b∈fR ocs,w.heap.size<=b/\b < w'.heap.size)
  (hrep:∀ (j:Nat) (ob:Ob) (oc:OC),obs[j]?=some ob->ocs[j]?=some oc->iH w' (Ms c (C ++ ocs)) ob oc)
  (htg:∀ (j r:Nat) (v:Value),obs[j]?=some (.tag r v)->∃ oc,(C ++ ocs)[r]?=some oc/\oc.v=v) :
  RelW c (o ++ obs) (C ++ ocs) w'/\∀ (e:jP) (a:Act),gX w c C e a->gX w' c (C ++ ocs) e a:=by
 have e:fR (C ++ ocs)=fR C ++ fR ocs:=by simp [fR]
 have hmem:∀ b∈fR (C ++ ocs),(b∈fR C\/w.heap.size<=b)/\b < w'.heap.size:=by
  intro b hb
  rw [e,aA] at hb
  rcases hb with hb|hb
  ·exact ⟨.inl hb,aZ (hw.lt b hb) hx.size⟩
  ·exact ⟨.inr (hsub b hb).1,(hsub b hb).2⟩
 have hg:Went w w' (fun _=>False):=aZH hx _
 have hget:∀ (j:Nat) (od:OC),C[j]?=some od->(C ++ ocs)[j]?=some od:=by
  intro j od h
  rw [List.getElem?_append_left (c6 h)]; exact h
 refine ⟨hw.upd hg (fun b h=>h.elim) (by simp [hw.len,hlen]) ?_ ?_ hmem (fun q r v hq=>by
  by_cases h:q < o.length
  ·rw [List.getElem?_append_left h] at hq; exact .inl hq
  ·rw [List.getElem?_append_right (by omega)] at hq; exact .inr (htg _ _ _ hq)) (fun q r v oc2 _ h=>⟨oc2,hget r oc2 h,rfl⟩),fun en a h=>?_⟩
 ·intro r ob oc h1 h2
  by_cases hr:r < C.length
  ·rw [List.getElem?_append_left hr] at h2
   rw [List.getElem?_append_left (by rw [hw.len]; exact hr)] at h1
   exact .inl ⟨h1,h2,fun _ _ h=>h⟩
  ·rw [List.getElem?_append_right (by omega)] at h2
   rw [List.getElem?_append_right (by rw [hw.len]; omega),hw.len] at h1
   exact .inr (hrep _ ob oc h1 h2)
 ·rw [e]
  refine aC.2 ⟨hw.nodup,hfp,fun a ha b hb hab=>?_⟩
  subst hab
  have:=hw.lt a ha
  have:=(hsub a hb).1
  omega
 ·refine (Loose.refl hw).envR hg (fun b h=>h.elim) hmem (fun j od hj=>⟨od,hget j od hj,rfl,rfl⟩) (fun _=>false) ?_ (fun t=>by simp) h
  intro s r od od' _ _ _ h1 h2 h3
  rw [hget r od h1] at h3
  injection h3 with h3
  subst h3
  exact ⟨h2,fun h=>h⟩
theorem n7:∀ (rs:List D) (us:List Value) (fp:List Nat) (o:List Ob),fH w' M rs us fp ->
  ∃ obs ocs,(eG rs o).2=o ++ obs/\obs.length=ocs.length/\fR ocs=fp /\
   (∀ (j:Nat) (ob:Ob) (oc:OC),obs[j]?=some ob->ocs[j]?=some oc->∃ x cs,ob=.val x/\x.rep w' M cs oc.fp/\oc.v=iU x cs)/\us.length=(eG rs o).1.length /\
   ∀ (i:Nat) (s:SV) (u:Value),(eG rs o).1[i]?=some s->us[i]?=some u->(∃ x cs,s=.d x/\x.rep w' M cs []/\u=iU x cs)\/(∃ k oc,s=.own (o.length + k)/\ocs[k]?=some oc/\oc.v=u)
 | [],us,fp,o,h=>by
  obtain ⟨rfl,rfl⟩:=h
  exact ⟨[],[],by simp [eG],rfl,rfl,fun j ob oc h=>by simp at h,rfl,fun i s u h=>by simp [eG] at h⟩
 | x :: rs,us,fp,o,h=>by
  obtain ⟨cs,us',f1,f2,rfl,rfl,h1,h2⟩:=h
  by_cases hn:x.noOwn=true
  ·have hf:=nU _ _ _ hn h1
   subst hf
   obtain ⟨obs,ocs,h3,h4,h5,h6,h7,h8⟩:=n7 rs us' f2 o h2
   refine ⟨obs,ocs,by simp only [eG,hn,if_true]; exact h3,h4,by simpa using h5,h6,by simp only [eG,hn,if_true,bL,h7],fun i s u hs hu=>?_⟩
   simp only [eG,hn,if_true] at hs
   cases i with
   | zero =>
    simp only [List.getElem?_cons_zero,Option.some.injEq] at hs hu
    exact .inl ⟨x,cs,hs.symm,h1,hu.symm⟩
   | succ i=>exact h8 i s u (by simpa using hs) (by simpa using hu)
  ·have hn':x.noOwn=false:=by simpa using hn
   obtain ⟨obs,ocs,h3,h4,h5,h6,h7,h8⟩:=n7 rs us' f2 (o ++ [.val x]) h2
   refine ⟨.val x :: obs,{ v:=iU x cs,blk:=0,fp:=f1 } :: ocs,by simp only [eG,hn',aT,if_false]; rw [h3]; simp,by simp [h4],by rw [<- h5]; rfl,fun j ob oc hj1 hj2=>?_,by simp only [eG,hn',aT,if_false,bL,h7],fun i s u hs hu=>?_⟩
   ·cases j with
    | zero =>
     simp only [List.getElem?_cons_zero,Option.some.injEq] at hj1 hj2
     subst hj1 hj2
     exact ⟨x,cs,rfl,h1,rfl⟩
    | succ j=>exact h6 j ob oc (by simpa using hj1) (by simpa using hj2)
   ·simp only [eG,hn',aT,if_false] at hs
    cases i with
    | zero =>
     simp only [List.getElem?_cons_zero,Option.some.injEq] at hs hu
     exact .inr ⟨0,{ v:=iU x cs,blk:=0,fp:=f1 },hs.symm,rfl,hu⟩
    | succ i =>
     rcases h8 i s u (by simpa using hs) (by simpa using hu) with h9|⟨k,oc,h9,iY,h11⟩
     ·exact .inl h9
     ·exact .inr ⟨k + 1,oc,by rw [h9]; simp; omega,iY,h11⟩
theorem aC8 {ss:List SV} {us:List Value} (hl:us.length=ss.length) (h:∀ (i:Nat) (s:SV) (u:Value),ss[i]?=some s->us[i]?=some u->iG w M C s u):dX w M C (n8 ss) (r5 us):=by
 match ss,us,hl with
 | [],[],_=>exact ⟨[],rfl,rfl,fun i s u h=>by simp at h⟩
 | [x],[u],_=>exact uB (h 0 x u rfl rfl)
 | x :: y :: ss,u :: v :: us,hl=>exact ⟨u :: v :: us,rfl,hl,h⟩
theorem aDt {R : List D -> Prop} (hw : RelW c o C w) : ∀ (rs : List D) (us : List Value) (fp : List Nat) (w' : World), R rs -> mO w w' -> fp.Nodup -> (∀ b ∈ fp, w.heap.size <= b) -> fH w' (fun b => Ms c C b \/ b ∈ fp) rs us fp -> (∀ b ∈ fp, b < w'.heap.size) ->
   ∃ rs' v C',Ending.returned (r5 us)=.returned v/\R rs'/\RelW c (eG rs' o).2 C' w'/\(∀ (e:jP) (a:Act),gX w c C e a->gX w' c C' e a)/\dX w' (Ms c C') C' (n8 (eG rs' o).1) v:=by
 intro rs us fp w' hR hx hnd hfp hr hlt
 obtain ⟨obs,ocs,h3,h4,h5,h6,h7,h8⟩:=n7 rs us fp o hr
 have hM:∀ b,Ms c (C ++ ocs) b↔(Ms c C b\/b∈fp):=by
  intro b
  have e:fR (C ++ ocs)=fR C ++ fp:=by rw [<- h5]; simp [fR]
  unfold Ms
  rw [e,aA,or_assoc]
 have hM2:(fun b=>Ms c C b\/b∈fp)=Ms c (C ++ ocs):=by funext b; exact propext (hM b).symm
 rw [hM2] at h6 h8
 have hn:=aWn hw (obs:=obs) (ocs:=ocs) hx h4 (by rw [h5]; exact hnd) (fun b hb=>by rw [h5] at hb; exact ⟨hfp b hb,hlt b hb⟩) (fun j ob oc hj1 hj2=>by
  obtain ⟨x,cs,rfl,h9,iY⟩:=h6 j ob oc hj1 hj2
  exact ⟨cs,h9,iY⟩) (fun j r v hj=>by
  have hl:=c6 hj
  obtain ⟨x,cs,h9,_⟩:=h6 j _ (ocs[j]'(by omega)) hj (List.getElem?_eq_getElem _)
  cases h9)
 rw [<- h3] at hn
 refine ⟨rs,_,C ++ ocs,rfl,hR,hn.1,hn.2,aC8 h7 fun i s u hs hu=>?_⟩
 rcases h8 i s u hs hu with ⟨x,cs,rfl,h9,iY⟩|⟨k,oc,rfl,h9,iY⟩
 ·exact ⟨cs,h9,iY⟩
 ·refine ⟨oc,?_,iY.symm⟩
  rw [List.getElem?_append_right (by rw [hw.len]; omega),hw.len,Nat.add_sub_cancel_left]
  exact h9
theorem aDI:∀ (rs:List D) (us:List Value) (fp:List Nat) (w':World) (M:Nat->Prop),fH w' M rs us fp->∀ b∈fp,b < w'.heap.size:=by
 intro rs
 induction rs with
 | nil=>intro us fp w' M h; rw [h.2]; intro b hb; cases hb
 | cons x rs ih =>
  intro us fp w' M h b hb
  obtain ⟨cs,us',f1,f2,rfl,rfl,h1,h2⟩:=h
  rcases aA.1 hb with hb|hb
  ·exact aUX _ _ _ h1 b hb
  ·exact ih _ _ _ _ h2 b hb
theorem aBq {f:FuncId} {vs:List Value} {ds:List D} {R:List D->Prop} (hw:RelW c o C w) (h0:fH w (Ms c C) ds vs []\/((∀ rs,R rs->rs.all D.allOwn=true)/\fH w (fun _=>False) ds vs [])) (hF:Fn c.G f ds R) :
  Calls c.P f vs.toArray w fun e w'=>∃ rs v C',e=.returned v/\R rs/\RelW c (eG rs o).2 C' w'/\(∀ (e:jP) (a:Act),gX w c C e a->gX w' c C' e a)/\dX w' (Ms c C') C' (n8 (eG rs o).1) v:=by
 rcases h0 with h0|⟨ho,h0⟩
 ·refine (hF (Ms c C) vs w (fun b hb=>Ms.lt hw hb) hw.glob h0).mono ?_
  rintro e w' ⟨rs,us,fp,rfl,hR,hr,hnd,hfp,hx⟩
  exact aDt hw rs us fp w' hR hx hnd hfp hr (aDI _ _ _ _ _ hr)
 ·refine (hF (fun _=>False) vs w (fun b hb=>hb.elim) (hw.glob.frame (fun _ _ h=>h.elim) (aB _) (fun _ _ _=>rfl)) h0).mono ?_
  rintro e w' ⟨rs,us,fp,rfl,hR,hr,hnd,hfp,hx⟩
  exact aDt hw rs us fp w' hR hx hnd hfp (rW _ _ _ (ho rs hR) hr) (aDI _ _ _ _ _ hr)
theorem aKf {f:FuncId} {vs:List Value} {ds:List D} {L:List (Value×Nat×D)} {R:List D->Prop} (hw:RelW c o C w) (hL:∀ p∈L,(D.sl false p.2.1 p.2.2).rep w (fun _=>False) [p.1] []) (h0:fH w (fun _=>False) ds vs []) (ho:∀ rs,R rs->rs.all D.allOwn=true) (hF:FnL c.G f L ds R) :
  Calls c.P f vs.toArray w fun e w'=>∃ rs v C',e=.returned v/\R rs/\RelW c (eG rs o).2 C' w'/\(∀ (e:jP) (a:Act),gX w c C e a->gX w' c C' e a)/\dX w' (Ms c C') C' (n8 (eG rs o).1) v:=by
 refine (hF (fun _=>False) vs w (fun b hb=>hb.elim) (hw.glob.frame (fun _ _ h=>h.elim) (aB _) (fun _ _ _=>rfl)) hL h0).mono ?_
 rintro e w' ⟨rs,us,fp,rfl,hR,hr,hnd,hfp,hx⟩
 exact aDt hw rs us fp w' hR hx hnd hfp (rW _ _ _ (ho rs hR) hr) (aDI _ _ _ _ _ hr)
theorem aJJ {f:FuncId} {vs:List Value} {ss:List SV} {ds:List D} {R:List D->Prop} (hw:RelW c o C w) (ha:jH o ss ds) (hl:vs.length=ss.length)
  (hv:∀ (i:Nat) (s:SV) (v:Value),ss[i]?=some s->vs[i]?=some v->dX w (Ms c C) C s v) (hF:Fn c.G f ds R) (hok:∀ rs,R rs->ss.all isD=true\/rs.all D.allOwn=true) :
  Calls c.P f vs.toArray w fun e w'=>∃ rs v C',e=.returned v/\R rs/\RelW c (eG rs o).2 C' w'/\(∀ (e:jP) (a:Act),gX w c C e a->gX w' c C' e a)/\dX w' (Ms c C') C' (n8 (eG rs o).1) v:=by
 refine aBq hw ?_ hF
 by_cases hd:ss.all isD=true
 ·exact .inl (oS ss ds vs ha hd hl hv)
 ·exact .inr ⟨fun rs hR=>(hok rs hR).resolve_left hd,tL ss ds vs hw ha hl hv⟩
theorem aH2 {f:FuncId} {vs es:List Value} {ss:List SV} {ds:List D} {ys:D} {R:List D->Prop} (hw:RelW c o C w) (ha:jH o ss ds) (hl:vs.length=ss.length)
  (hv:∀ (i:Nat) (s:SV) (v:Value),ss[i]?=some s->vs[i]?=some v->dX w (Ms c C) C s v) (hys:ys.rep w (Ms c C) es []) (hcap:ys.caps=true) (hF:Fn c.G f (ds ++ ys.list) R) (hok:∀ rs,R rs->ss.all isD=true\/rs.all D.allOwn=true) :
  Calls c.P f (vs ++ es).toArray w fun e w'=>∃ rs v C',e=.returned v/\R rs/\RelW c (eG rs o).2 C' w'/\(∀ (e:jP) (a:Act),gX w c C e a->gX w' c C' e a)/\dX w' (Ms c C') C' (n8 (eG rs o).1) v:=by
 refine aBq hw ?_ hF
 by_cases hd:ss.all isD=true
 ·exact .inl (uE _ _ _ _ (oS ss ds vs ha hd hl hv) (xZ ys es hcap hys))
 ·exact .inr ⟨fun rs hR=>(hok rs hR).resolve_left hd,uE _ _ _ _ (tL ss ds vs hw ha hl hv) (xZ ys es hcap (eR (M':=fun _=>False) (aB _) (fun _ _ h=>h.elim) _ _ _ (fun _ _ _=>rfl) hys))⟩
def aN4 (o:List Ob):D->(D->Prop)->Prop
 | .lnk q v,K=>∃ r ow es xs,o[q]?=some (.tag r v)/\o[r]?=some (.val (.sl ow es xs))/\K (D.sl ow es xs).unown
 | .st xs,K=>aN4 o xs fun ys=>K (.st ys)
 | .cons x xs,K=>aN4 o x fun y=>aN4 o xs fun ys=>K (.cons y ys)
 | d,K=>K d
def vZ (o:List Ob):List SV->(List D->Prop)->Prop
 | [],K=>K []
 | .d x :: ss,K=>aN4 o x fun y=>vZ o ss fun ys=>K (y :: ys)
 | .nil :: ss,K=>∃ es,vZ o ss fun ys=>K (.sl false es .nil :: ys)
 | .own r :: ss,K=>∃ x,o[r]?=some (.val x)/\vZ o ss fun ys=>K (x.unown :: ys)
 | _ :: _,_=>False
theorem aJ7 (hw:RelW c o C w):∀ (x:D) (cs:List Value) (K:D->Prop),x.rep w (Ms c C) cs []->aN4 o x K->∃ y,K y/\y.rep w (fun _=>False) cs []/\iU y cs=iU x cs:=by
 have base:∀ (x:D) (cs:List Value),x.rep w (Ms c C) cs []->x.rep w (fun _=>False) cs []:=fun x cs h=>eR (aB _) (fun _ _ h=>h.elim) _ _ _ (fun _ _ _=>rfl) h
 intro x
 induction x with
 | lnk q v =>
  intro cs K h hk
  obtain ⟨rfl,h1,_⟩:=h
  obtain ⟨r,ow,es,xs,h2,h3,hK⟩:=hk
  obtain ⟨oc,h4,h5⟩:=hw.tags q r v h2
  obtain ⟨cs',h6,h7⟩:=hw.obs r _ oc h3 h4
  have hcs:cs'=[v]:=by
   have h8:=h6
   obtain ⟨_,_,_,_,_,e,_⟩:=h8
   rw [e] at h7 ⊢
   simp only [iU,bA] at h7
   rw [<- h5,h7]
  subst hcs
  exact ⟨_,hK,jE _ _ _ (fun b hb=>hb.elim) (fun b _ hb=>hb) h6,rfl⟩
 | st xs ih =>
  intro cs K h hk
  obtain ⟨y,h1,h2,h3⟩:=ih cs (fun ys=>K (.st ys)) h hk
  exact ⟨_,h1,h2,rfl⟩
 | cons x xs ih1 ih2 =>
  intro cs K h hk
  obtain ⟨c1,c2,f1,f2,rfl,hf,h1,h2⟩:=h
  obtain ⟨rfl,rfl⟩:=cE.1 hf.symm
  obtain ⟨y,hk,h3,_⟩:=ih1 c1 _ h1 hk
  obtain ⟨ys,hk,h4,_⟩:=ih2 c2 _ h2 hk
  exact ⟨_,hk,⟨c1,c2,[],[],rfl,rfl,h3,h4⟩,rfl⟩
 | _=>intro cs K h hk; exact ⟨_,hk,base _ _ h,rfl⟩
theorem sE (hw:RelW c o C w):∀ (ss:List SV) (vs:List Value) (K:List D->Prop),vZ o ss K->vs.length=ss.length->(∀ (i:Nat) (s:SV) (v:Value),ss[i]?=some s->vs[i]?=some v->dX w (Ms c C) C s v) ->
  ∃ ds,K ds/\fH w (fun _=>False) ds vs []
 | [],vs,K,hk,hl,_=>⟨[],hk,aX hl,rfl⟩
 | s :: ss,vs,K,hk,hl,hv=>by
  match vs,hl with
  | v :: vs,hl =>
   have hv0:=hv 0 s v rfl rfl
   have hvr:∀ (i:Nat) (s:SV) (v:Value),ss[i]?=some s->vs[i]?=some v->dX w (Ms c C) C s v:=fun i s u hs hu=>hv (i + 1) s u (by simpa using hs) (by simpa using hu)
   have hlr:vs.length=ss.length:=by simpa using hl
   cases s with
   | d x =>
    obtain ⟨cs,h1,h2⟩:=hv0
    obtain ⟨y,hk,h3,h4⟩:=aJ7 hw x cs _ h1 hk
    obtain ⟨ys,hk,h5⟩:=sE hw ss vs _ hk hlr hvr
    exact ⟨_,hk,cs,vs,[],[],by rw [h2,h4],rfl,h3,h5⟩
   | nil =>
    have hv0:v=.slice none 0 0:=hv0
    obtain ⟨es,hk⟩:=hk
    obtain ⟨ys,hk,h5⟩:=sE hw ss vs _ hk hlr hvr
    exact ⟨_,hk,[v],vs,[],[],rfl,rfl,⟨trivial,none,0,[],[],by rw [hv0]; rfl,aB _,⟨rfl,rfl⟩,by simp [D.len]⟩,h5⟩
   | own r =>
    obtain ⟨x,h1,hk⟩:=hk
    obtain ⟨oc,h2,rfl⟩:=hv0
    obtain ⟨cs,h3,h4⟩:=hw.obs r _ oc h1 h2
    obtain ⟨ys,hk,h5⟩:=sE hw ss vs _ hk hlr hvr
    exact ⟨_,hk,cs,vs,[],[],by rw [h4,oR],rfl,jE _ _ _ (fun b hb=>hb.elim) (fun b _ hb=>hb) h3,h5⟩
   | _=>exact hk.elim
def pI (o:List Ob):List (Value×Nat×D)->Prop
 | []=>True
 | p :: L=>(∃ (q r:Nat) (ow:Bool) (xs:D),o[q]?=some (.tag r p.1)/\o[r]?=some (.val (.sl ow p.2.1 xs))/\p.2.2=xs.unown)/\pI o L
theorem aGb (hw:RelW c o C w):∀ (L:List (Value×Nat×D)),pI o L->∀ p∈L,(D.sl false p.2.1 p.2.2).rep w (fun _=>False) [p.1] []
 | [],_,p,hp=>by cases hp
 | a :: L,h,p,hp=>by
  rcases aE.1 hp with rfl|hp
  ·obtain ⟨q,r,ow,xs,h2,h3,he⟩:=h.1
   obtain ⟨oc,h4,h5⟩:=hw.tags q r _ h2
   obtain ⟨cs',h6,h7⟩:=hw.obs r _ oc h3 h4
   have hcs:cs'=[p.1]:=by
    have h8:=h6
    obtain ⟨_,_,_,_,_,e,_⟩:=h8
    rw [e] at h7 ⊢
    simp only [iU,bA] at h7
    rw [<- h5,h7]
   subst hcs
   rw [he]
   exact jE _ _ _ (fun b hb=>hb.elim) (fun b _ hb=>hb) h6
  ·exact aGb hw L h.2 p hp
end
section
variable {c : Ctx} {o : List Ob} {C : List OC} {w w' : World}
theorem gV {α:Type} {xs ys:List α} {r j:Nat} {x y:α} (hr:r < xs.length) (h:(xs.set r x ++ ys)[j]?=some y) :
  (j=r/\y=x)\/(j≠r/\j < xs.length/\xs[j]?=some y)\/(xs.length<=j/\ys[j - xs.length]?=some y):=by
 by_cases hj:j < xs.length
 ·rw [List.getElem?_append_left (by simpa using hj),List.getElem?_set] at h
  by_cases e:r=j
  ·rw [if_pos e,if_pos (by omega)] at h
   injection h with h
   exact .inl ⟨e.symm,h.symm⟩
  ·rw [if_neg e] at h
   exact .inr (.inl ⟨fun h=>e h.symm,hj,h⟩)
 ·rw [List.getElem?_append_right (by simp; omega)] at h
  exact .inr (.inr ⟨by omega,by simpa using h⟩)
theorem aJR (hw:RelW c o C w) {r:Nat} {ob ob':Ob} {oc oc':OC} {obs:List Ob} {ocs:List OC} (h1:o[r]?=some ob) (h2:C[r]?=some oc) (hg:Went w w' (fun b=>b∈oc.fp)) (hval:oc'.v=oc.v) (hblk:oc'.blk=oc.blk)
  (hlen:obs.length=ocs.length) (hnd:(oc'.fp ++ fR ocs).Nodup) (hsub:∀ b∈oc'.fp ++ fR ocs,(b∈oc.fp\/w.heap.size<=b)/\b < w'.heap.size)
  (hrep:iH w' (Ms c (C.set r oc' ++ ocs)) ob' oc') (hreps:∀ (j:Nat) (ob:Ob) (oc1:OC),obs[j]?=some ob->ocs[j]?=some oc1->iH w' (Ms c (C.set r oc' ++ ocs)) ob oc1)
  (hnt:∀ s v,ob'≠.tag s v) (hnts:∀ (j s:Nat) (v:Value),obs[j]?≠some (.tag s v)) :
  RelW c (o.set r ob' ++ obs) (C.set r oc' ++ ocs) w'/\∀ (e:jP) (a:Act) (e':jP),gX w c C e a->(∀ t,look e' t=if gP r (look e t) then .any else look e t)->gX w' c (C.set r oc' ++ ocs) e' a:=by
 have hr:=c6 h2
 have hro:=c6 h1
 have hnC:=eE.1 hw.nodup
 have hocC:∀ b∈oc.fp,b∈fR C:=fun b hb=>dG.2 ⟨r,oc,h2,hb⟩
 have hother:∀ (j:Nat) (od:OC),j≠r->C[j]?=some od->∀ b∈od.fp,b ∉ oc.fp:=fun j od hne hj b hb hb'=>hnC.2 r j oc od (fun h=>hne h.symm) h2 hj b hb' hb
 have hapart:∀ (j:Nat) (od:OC),j≠r->C[j]?=some od->∀ b∈od.fp,b ∉ oc'.fp ++ fR ocs:=by
  intro j od hne hj b hb hb'
  rcases (hsub b hb').1 with h|h
  ·exact hother j od hne hj b hb h
  ·have:=hw.lt b (dG.2 ⟨j,od,hj,hb⟩); omega
 obtain ⟨n1,n2,n3⟩:=aC.1 hnd
 have hmem:∀ b∈fR (C.set r oc' ++ ocs),(b∈fR C\/w.heap.size<=b)/\b < w'.heap.size:=by
  intro b hb
  obtain ⟨j,od,hj,hb'⟩:=dG.1 hb
  rcases gV hr hj with ⟨rfl,rfl⟩|⟨hne,hlt,hj⟩|⟨hle,hj⟩
  ·obtain ⟨h3,h4⟩:=hsub b (aV _ hb')
   exact ⟨h3.imp (hocC b) id,h4⟩
  ·have h3:=dG.2 ⟨j,od,hj,hb'⟩
   exact ⟨.inl h3,aZ (hw.lt b h3) hg.size⟩
  ·obtain ⟨h3,h4⟩:=hsub b (aQ _ (dG.2 ⟨_,od,hj,hb'⟩))
   exact ⟨h3.imp (hocC b) id,h4⟩
 refine ⟨hw.upd hg hocC (by simp [hw.len,hlen]) ?_ ?_ hmem (fun q s v hq=>by
  rcases gV hro hq with ⟨_,h⟩|⟨_,_,h⟩|⟨_,h⟩
  ·exact absurd h.symm (hnt s v)
  ·exact .inl h
  ·exact absurd h (hnts _ s v)) (fun q s v oc2 _ h=>by
  by_cases e:s=r
  ·subst e
   rw [h2] at h
   injection h with h
   subst h
   exact ⟨oc',by rw [List.getElem?_append_left (by simpa using hr),List.getElem?_set,if_pos rfl,if_pos hr],hval⟩
  ·have hq:=c6 h
   exact ⟨oc2,by rw [List.getElem?_append_left (by simpa using hq),List.getElem?_set,if_neg (fun h=>e h.symm)]; exact h,rfl⟩),fun e a e' he hlook=>?_⟩
 ·intro j obj ocj hj1 hj2
  rcases gV hr hj2 with ⟨rfl,rfl⟩|⟨hne,hlt,hj⟩|⟨hle,hj⟩
  ·rcases gV hro hj1 with ⟨_,rfl⟩|⟨hne,_⟩|⟨hle,_⟩
   ·exact .inr hrep
   ·exact absurd rfl hne
   ·omega
  ·rcases gV hro hj1 with ⟨e,_⟩|⟨_,_,hj3⟩|⟨hle,_⟩
   ·exact absurd e hne
   ·exact .inl ⟨hj3,hj,fun b hb hX=>hother j ocj hne hj b hb hX⟩
   ·have:=hw.len; omega
  ·rcases gV hro hj1 with ⟨e,_⟩|⟨_,hl,_⟩|⟨_,hj3⟩
   ·omega
   ·have:=hw.len; omega
   ·rw [hw.len] at hj3; exact .inr (hreps _ _ _ hj3 hj)
 ·refine eE.2 ⟨fun j od hj=>?_,fun j s od oe hne hj hs b hb hb'=>?_⟩
  ·rcases gV hr hj with ⟨_,rfl⟩|⟨_,_,hj⟩|⟨_,hj⟩
   ·exact n1
   ·exact hnC.1 j od hj
   ·exact (eE.1 n2).1 _ od hj
  ·rcases gV hr hj with ⟨e1,rfl⟩|⟨hne1,_,hj1⟩|⟨hle1,hj1⟩
   ·rcases gV hr hs with ⟨e2,_⟩|⟨hne2,_,hs2⟩|⟨hle2,hs2⟩
    ·omega
    ·exact hapart s oe hne2 hs2 b hb' (aV _ hb)
    ·exact n3 b hb b (dG.2 ⟨_,oe,hs2,hb'⟩) rfl
   ·rcases gV hr hs with ⟨e2,rfl⟩|⟨hne2,_,hs2⟩|⟨hle2,hs2⟩
    ·exact hapart j od hne1 hj1 b hb (aV _ hb')
    ·exact hnC.2 j s od oe hne hj1 hs2 b hb hb'
    ·exact hapart j od hne1 hj1 b hb (aQ _ (dG.2 ⟨_,oe,hs2,hb'⟩))
   ·rcases gV hr hs with ⟨e2,rfl⟩|⟨hne2,_,hs2⟩|⟨hle2,hs2⟩
    ·exact n3 b hb' b (dG.2 ⟨_,od,hj1,hb⟩) rfl
    ·exact hapart s oe hne2 hs2 b hb' (aQ _ (dG.2 ⟨_,od,hj1,hb⟩))
    ·exact (eE.1 n2).2 _ _ od oe (by omega) hj1 hs2 b hb hb'
 ·refine gX.upd (f:=gP r) hg hocC hmem ?_ ?_ hlook he
  ·intro s q od _ _ a1
   by_cases e:q=r
   ·subst e
    rw [h2] at a1
    injection a1 with a1
    subst a1
    exact ⟨oc',by rw [List.getElem?_append_left (by simpa using hr),List.getElem?_set,if_pos rfl,if_pos hr],hval,hblk⟩
   ·have hq:=c6 a1
    exact ⟨od,by rw [List.getElem?_append_left (by simpa using hq),List.getElem?_set,if_neg (fun h=>e h.symm)]; exact a1,rfl,rfl⟩
  ·intro s q od od' hf hq a1 a2 a3
   by_cases e:q=r
   ·subst e; rw [hf] at hq; cases hq
   ·have hql:=c6 a1
    rw [List.getElem?_append_left (by simpa using hql),List.getElem?_set,if_neg (fun h=>e h.symm),a1] at a3
    injection a3 with a3
    subst a3
    exact ⟨a2,hother q od e a1 _ a2⟩
end
def i8 (bx:Bool) (x:D):Ob:=if bx then .box x else .val x
def mkV (bx:Bool) (oc:OC):Value:=if bx then .pointer (some ⟨oc.blk,0,none⟩) else oc.v
def wQ (P:PG) (f:FuncId) (bx:Bool) (x:D) (ds:List D) (R:D->List D->Prop):Prop :=
 ∀ (M:Nat->Prop) (oc:OC) (vs:List Value) (w:World),(∀ b,M b->b < w.heap.size)->iH w (fun b=>M b\/b∈oc.fp) (i8 bx x) oc->oc.fp.Nodup->(∀ b∈oc.fp,b < w.heap.size/\¬ M b) ->
  GOK P w (fun b=>M b\/b∈oc.fp)->fH w (fun b=>M b\/b∈oc.fp) ds vs [] ->
  Calls P.P f (mkV bx oc :: vs).toArray w fun e w'=>∃ x' rs us fo fp,e=.returned (r5 us)/\R x' rs/\iH w' (fun b=>M b\/b∈fo ++ fp) (i8 bx x') { oc with fp:=fo }/\fH w' (fun b=>M b\/b∈fo ++ fp) rs us fp /\
   (fo ++ fp).Nodup/\(∀ b∈fo ++ fp,(b∈oc.fp\/w.heap.size<=b)/\b < w'.heap.size)/\Went w w' (fun b=>b∈oc.fp)
theorem iH.weak {w:World} {M M':Nat->Prop} {ob:Ob} {oc:OC} (hM:∀ b,M' b->M b) (h:iH w M ob oc):iH w M' ob oc:=by
 cases ob with
 | dead=>exact h
 | tag _ _=>exact h
 | val x=>obtain ⟨cs,h1,h2⟩:=h; exact ⟨cs,eR (aB _) (fun b _ hb=>hM b hb) _ _ _ (fun _ _ _=>rfl) h1,h2⟩
 | box x=>obtain ⟨cs,fps,h1,h2,h3⟩:=h; exact ⟨cs,fps,h1,eR (aB _) (fun b _ hb=>hM b hb) _ _ _ (fun _ _ _=>rfl) h2,h3⟩
 | mp _=>exact h
theorem iH.own {w:World} {M M':Nat->Prop} {bx:Bool} {x:D} {oc:OC} (ha:x.allOwn=true) (h:iH w M (i8 bx x) oc):iH w M' (i8 bx x) oc:=by
 cases bx with
 | false=>obtain ⟨cs,h1,h2⟩:=h; exact ⟨cs,uO _ _ _ ha h1,h2⟩
 | true=>obtain ⟨cs,fps,h1,h2,h3⟩:=h; exact ⟨cs,fps,h1,uO _ _ _ ha h2,h3⟩
def iZ (bx:Bool) (r:Nat):SV:=if bx then .ptr r 0 [] else .own r
section
variable {c : Ctx} {o : List Ob} {C : List OC} {w : World}
theorem aGa {w':World} {bx:Bool} {r:Nat} {x x':D} {oc:OC} {rs:List D} {us:List Value} {fo fp:List Nat} {R:D->List D->Prop} (hw:RelW c o C w) (hor:o[r]?=some (i8 bx x)) (h2:C[r]?=some oc) (hR:R x' rs)
  (hob:iH w' (fun b=>(Ms c C b/\b ∉ oc.fp)\/b∈fo ++ fp) (i8 bx x') { oc with fp:=fo }) (hrs:fH w' (fun b=>(Ms c C b/\b ∉ oc.fp)\/b∈fo ++ fp) rs us fp)
  (hnd:(fo ++ fp).Nodup) (hmem:∀ b∈fo ++ fp,(b∈oc.fp\/w.heap.size<=b)/\b < w'.heap.size) (hg:Went w w' (fun b=>b∈oc.fp)) :
  ∃ x' rs' v C',Ending.returned (r5 us)=.returned v/\R x' rs'/\RelW c (eG rs' (o.set r (i8 bx x'))).2 C' w' /\
   (∀ (e e':jP) (a:Act),gX w c C e a->(∀ t,look e' t=if gP r (look e t) then .any else look e t)->gX w' c C' e' a)/\dX w' (Ms c C') C' (n8 (eG rs' (o.set r (i8 bx x'))).1) v:=by
 have hro:=c6 hor
 have hr:=c6 h2
 have hocC:∀ b∈oc.fp,b∈fR C:=fun b hb=>dG.2 ⟨r,oc,h2,hb⟩
 have hnC:=eE.1 hw.nodup
 let M:Nat->Prop:=fun b=>Ms c C b/\b ∉ oc.fp
 have hob:iH w' (fun b=>M b\/b∈fo ++ fp) (i8 bx x') { oc with fp:=fo }:=hob
 have hrs:fH w' (fun b=>M b\/b∈fo ++ fp) rs us fp:=hrs
 obtain ⟨obs,ocs,k3,k4,k5,k6,k7,k8⟩:=n7 rs us fp (o.set r (i8 bx x')) hrs
 have hM:∀ b,Ms c (C.set r { oc with fp:=fo } ++ ocs) b↔(M b\/b∈fo ++ fp):=by
  intro b
  constructor
  ·rintro (h|h)
   ·exact .inl ⟨.inl h,fun hb=>hw.apart b (hocC b hb) h⟩
   ·obtain ⟨j,od,hj,hb⟩:=dG.1 h
    rcases gV hr hj with ⟨_,rfl⟩|⟨hne,_,hj⟩|⟨_,hj⟩
    ·exact .inr (aV _ hb)
    ·exact .inl ⟨.inr (dG.2 ⟨j,od,hj,hb⟩),fun hb'=>hnC.2 j r od oc hne hj h2 b hb hb'⟩
    ·exact .inr (aQ _ (by rw [<- k5]; exact dG.2 ⟨_,od,hj,hb⟩))
  ·rintro (⟨h,hb⟩|h)
   ·rcases h with h|h
    ·exact .inl h
    ·obtain ⟨j,od,hj,hbj⟩:=dG.1 h
     have hne:j≠r:=fun e=>by
      subst e; rw [h2] at hj; injection hj with hj; subst hj; exact hb hbj
     exact .inr (dG.2 ⟨j,od,by rw [List.getElem?_append_left (by simpa using c6 hj),List.getElem?_set,if_neg (fun h=>hne h.symm)]; exact hj,hbj⟩)
   ·rcases aA.1 h with h|h
    ·exact .inr (dG.2 ⟨r,{ oc with fp:=fo },by rw [List.getElem?_append_left (by simpa using hr),List.getElem?_set,if_pos rfl,if_pos hr],h⟩)
    ·rw [<- k5] at h
     obtain ⟨j,od,hj,hbj⟩:=dG.1 h
     refine .inr (dG.2 ⟨C.length + j,od,?_,hbj⟩)
     rw [List.getElem?_append_right (by simp)]
     simpa using hj
 have hM2:(fun b=>M b\/b∈fo ++ fp)=Ms c (C.set r { oc with fp:=fo } ++ ocs):=by funext b; exact propext (hM b).symm
 rw [hM2] at hob hrs k6 k8
 have hput:=aJR (ob':=i8 bx x') (oc':={ oc with fp:=fo }) (obs:=obs) (ocs:=ocs) hw hor h2 hg rfl rfl k4 (by rw [k5]; exact hnd) (by rw [k5]; exact hmem) hob (fun j ob oc1 hj1 hj2=>by
  obtain ⟨y,cs,rfl,h9,iY⟩:=k6 j ob oc1 hj1 hj2
  exact ⟨cs,h9,iY⟩) (fun s v=>by cases bx<;>(intro h; cases h)) (fun j s v hj=>by
  have hl:=c6 hj
  obtain ⟨y,cs,h9,_⟩:=k6 j _ (ocs[j]'(by omega)) hj (List.getElem?_eq_getElem _)
  cases h9)
 rw [<- k3] at hput
 refine ⟨x',rs,_,_,rfl,hR,hput.1,fun e e' a h1 h3=>hput.2 e a e' h1 h3,aC8 k7 fun i s u hs hu=>?_⟩
 rcases k8 i s u hs hu with ⟨y,cs,rfl,h9,iY⟩|⟨k,oc1,rfl,h9,iY⟩
 ·exact ⟨cs,h9,iY⟩
 ·refine ⟨oc1,?_,iY.symm⟩
  have:(o.set r (i8 bx x')).length=C.length:=by simp [hw.len]
  rw [this,List.getElem?_append_right (by simp)]
  simpa using h9
theorem aH9 {f:FuncId} {bx:Bool} {r:Nat} {x:D} {v0:Value} {vs:List Value} {ss:List SV} {ds:List D} {R:D->List D->Prop} (hw:RelW c o C w) (hor:o[r]?=some (i8 bx x)) (hv0:dX w (Ms c C) C (iZ bx r) v0)
  (ha:jH o ss ds) (hd:ss.all isD=true) (hl:vs.length=ss.length)
  (hv:∀ (i:Nat) (s:SV) (v:Value),ss[i]?=some s->vs[i]?=some v->dX w (Ms c C) C s v) (hF:wQ c.G f bx x ds R) :
  Calls c.P f (v0 :: vs).toArray w fun e w'=>∃ x' rs v C',e=.returned v/\R x' rs/\RelW c (eG rs (o.set r (i8 bx x'))).2 C' w' /\
   (∀ (e e':jP) (a:Act),gX w c C e a->(∀ t,look e' t=if gP r (look e t) then .any else look e t)->gX w' c C' e' a)/\dX w' (Ms c C') C' (n8 (eG rs (o.set r (i8 bx x'))).1) v:=by
 have hro:=c6 hor
 obtain ⟨oc,h2⟩:∃ oc,C[r]?=some oc:=⟨C[r]'(by rw [<- hw.len]; exact hro),List.getElem?_eq_getElem _⟩
 have hr:=c6 h2
 have hocC:∀ b∈oc.fp,b∈fR C:=fun b hb=>dG.2 ⟨r,oc,h2,hb⟩
 have hnC:=eE.1 hw.nodup
 have hv0':v0=mkV bx oc:=by
  cases bx with
  | false =>
   obtain ⟨oc',h3,h4⟩:=hv0
   rw [h2] at h3; injection h3 with h3; subst h3; exact h4
  | true =>
   obtain ⟨oc',h3,h4⟩:=hv0
   rw [h2] at h3; injection h3 with h3; subst h3; exact h4
 let M:Nat->Prop:=fun b=>Ms c C b/\b ∉ oc.fp
 have hMe:(fun b=>M b\/b∈oc.fp)=Ms c C:=by
  funext b
  refine propext ⟨fun h=>?_,fun h=>?_⟩
  ·rcases h with h|h
   ·exact h.1
   ·exact .inr (hocC b h)
  ·by_cases hb:b∈oc.fp
   ·exact .inr hb
   ·exact .inl ⟨h,hb⟩
 have hvs:=oS (M:=Ms c C) (w:=w) ss ds vs ha hd hl hv
 rw [<- hMe] at hvs
 rw [hv0']
 refine (hF M oc vs w (fun b hb=>Ms.lt hw hb.1) (by rw [hMe]; exact hw.obs r _ oc hor h2) (hnC.1 r oc h2) (fun b hb=>⟨hw.lt b (hocC b hb),fun h=>h.2 hb⟩) (by rw [hMe]; exact hw.glob) hvs).mono ?_
 rintro e w' ⟨x',rs,us,fo,fp,rfl,hR,hob,hrs,hnd,hmem,hg⟩
 exact aGa hw hor h2 hR hob hrs hnd hmem hg
def aEt (P:PG) (f:FuncId) (x:D) (L:List (Value×Nat×D)) (ds:List D) (R:D->List D->Prop):Prop :=
 ∀ (M:Nat->Prop) (oc:OC) (vs:List Value) (w:World),(∀ b,M b->b < w.heap.size)->iH w (fun b=>M b\/b∈oc.fp) (.box x) oc->oc.fp.Nodup->(∀ b∈oc.fp,b < w.heap.size/\¬ M b) ->
  GOK P w (fun b=>M b\/b∈oc.fp)->(∀ p∈L,(D.sl false p.2.1 p.2.2).rep w (fun b=>M b\/b∈oc.fp) [p.1] [])->fH w (fun b=>M b\/b∈oc.fp) ds vs [] ->
  Calls P.P f (mkV true oc :: vs).toArray w fun e w'=>∃ x' rs us fo fp,e=.returned (r5 us)/\R x' rs/\iH w' (fun b=>M b\/b∈fo ++ fp) (.box x') { oc with fp:=fo }/\fH w' (fun b=>M b\/b∈fo ++ fp) rs us fp /\
   (fo ++ fp).Nodup/\(∀ b∈fo ++ fp,(b∈oc.fp\/w.heap.size<=b)/\b < w'.heap.size)/\Went w w' (fun b=>b∈oc.fp)
def aE7 (r:Nat):SV->Bool
 | .vw q=>!(q == r)
 | _=>true
theorem aNI {r:Nat} {z:D} {od:OC} {s:SV} {x:D} {v:Value} (hw:RelW c o C w) (hor:o[r]?=some (.box z)) (h2:C[r]?=some od) (hn:aE7 r s=true) (ha:aIv o s x) (hv:dX w (Ms c C) C s v):∃ cs,v=iU x cs/\x.rep w (fun b=>b∈od.fp) cs []:=by
 have hodC:∀ b,b∈od.fp->Ms c C b:=fun b hb=>.inr (dG.2 ⟨r,od,h2,hb⟩)
 have hap:∀ (q:Nat) (oc:OC),q≠r->C[q]?=some oc->∀ b∈oc.fp,¬ b∈od.fp:=fun q oc hq h b hb hb'=>(eE.1 hw.nodup).2 q r oc od hq h h2 b hb hb'
 cases s with
 | d y =>
  obtain ⟨cs,h1,h2⟩:=hv
  have ha:x=y:=ha
  subst ha
  exact ⟨cs,h2,eR (aB _) (fun b _ h=>hodC b h) _ _ _ (fun _ _ _=>rfl) h1⟩
 | own q =>
  obtain ⟨y,h1,rfl⟩:=ha
  obtain ⟨oc,h3,rfl⟩:=hv
  obtain ⟨cs,h4,h5⟩:=hw.obs q _ oc h1 h3
  have hq:q≠r:=fun e=>by subst e; rw [hor] at h1; cases h1
  exact ⟨cs,by rw [oR]; exact h5,jE _ _ _ (fun b h=>hodC b h) (fun b hb=>hap q oc hq h3 b hb) h4⟩
 | vw q =>
  obtain ⟨xs,h1,rfl⟩:=ha
  obtain ⟨oc,cs,h3,_,h4,rfl⟩:=hv
  obtain ⟨cs',fps,h5,h6,h7⟩:=hw.obs q _ oc h1 h3
  have:=h4.eq h5
  subst this
  have hq:q≠r:=by simpa [aE7] using hn
  exact ⟨cs,rfl,jE (.st xs) _ _ (fun b h=>hodC b h) (fun b hb=>hap q oc hq h3 b (by rw [h7]; exact aL _ hb)) h6⟩
 | nil =>
  obtain ⟨es,rfl⟩:=ha
  have hv:v=.slice none 0 0:=hv
  exact ⟨[.slice none 0 0],hv,trivial,none,0,[],[],rfl,aB _,⟨rfl,rfl⟩,by simp [D.len]⟩
 | _=>exact ha.elim
theorem aFN {r:Nat} {z:D} {od:OC}:∀ (ss:List SV) (ds:List D) (vs:List Value),RelW c o C w->o[r]?=some (.box z)->C[r]?=some od->ss.all (aE7 r)=true->jH o ss ds->vs.length=ss.length->(∀ (i:Nat) (s:SV) (v:Value),ss[i]?=some s->vs[i]?=some v->dX w (Ms c C) C s v) ->
  fH w (fun b=>b∈od.fp) ds vs []
 | [],ds,vs,_,_,_,_,ha,hl,_=>by
  have ha:ds=[]:=ha
  subst ha
  exact ⟨aX hl,rfl⟩
 | s :: ss,ds,vs,hw,hor,h2,hn,ha,hl,hv=>by
  obtain ⟨x,xs,rfl,h1,h3⟩:=ha
  simp only [List.all_cons,aY] at hn
  match vs,hl with
  | v :: vs,hl =>
   obtain ⟨cs,rfl,h4⟩:=aNI hw hor h2 hn.1 h1 (hv 0 s v rfl rfl)
   exact ⟨cs,vs,[],[],rfl,rfl,h4,aFN ss xs vs hw hor h2 hn.2 h3 (by simpa using hl) (fun i s v h4 h5=>hv (i + 1) s v h4 h5)⟩
theorem aD4 {r:Nat} {z:D} {od:OC} (hw:RelW c o C w) (hor:o[r]?=some (.box z)) (hod:C[r]?=some od):∀ (L:List (Value×Nat×D)),pI o L->∀ p∈L,(D.sl false p.2.1 p.2.2).rep w (fun b=>b∈od.fp) [p.1] []
 | [],_,p,hp=>by cases hp
 | a :: L,h,p,hp=>by
  rcases aE.1 hp with rfl|hp
  ·obtain ⟨q,r',ow,xs,h2,h3,he⟩:=h.1
   obtain ⟨oc,h4,h5⟩:=hw.tags q r' _ h2
   obtain ⟨cs',h6,h7⟩:=hw.obs r' _ oc h3 h4
   have hcs:cs'=[p.1]:=by
    have h8:=h6
    obtain ⟨_,_,_,_,_,e,_⟩:=h8
    rw [e] at h7 ⊢
    simp only [iU,bA] at h7
    rw [<- h5,h7]
   subst hcs
   rw [he]
   have hq:r'≠r:=fun e=>by subst e; rw [hor] at h3; cases h3
   exact jE _ _ _ (fun b hb=>.inr (dG.2 ⟨r,od,hod,hb⟩)) (fun b hb hb'=>(eE.1 hw.nodup).2 r' r oc od hq h4 hod b hb hb') h6
  ·exact aD4 hw hor hod L h.2 p hp
theorem aGK {f:FuncId} {r:Nat} {x:D} {v0:Value} {vs:List Value} {ss:List SV} {ds:List D} {L:List (Value×Nat×D)} {R:D->List D->Prop} (hw:RelW c o C w) (hor:o[r]?=some (.box x)) (hv0:dX w (Ms c C) C (iZ true r) v0)
  (ha:jH o ss ds) (hn:ss.all (aE7 r)=true) (hL:pI o L) (hl:vs.length=ss.length)
  (hv:∀ (i:Nat) (s:SV) (v:Value),ss[i]?=some s->vs[i]?=some v->dX w (Ms c C) C s v) (hF:aEt c.G f x L ds R) (hok:∀ x' rs,R x' rs->x'.allOwn=true/\rs.all D.allOwn=true) :
  Calls c.P f (v0 :: vs).toArray w fun e w'=>∃ x' rs v C',e=.returned v/\R x' rs/\RelW c (eG rs (o.set r (i8 true x'))).2 C' w' /\
   (∀ (e e':jP) (a:Act),gX w c C e a->(∀ t,look e' t=if gP r (look e t) then .any else look e t)->gX w' c C' e' a)/\dX w' (Ms c C') C' (n8 (eG rs (o.set r (i8 true x'))).1) v:=by
 have hro:=c6 hor
 obtain ⟨oc,h2⟩:∃ oc,C[r]?=some oc:=⟨C[r]'(by rw [<- hw.len]; exact hro),List.getElem?_eq_getElem _⟩
 have hocC:∀ b∈oc.fp,b∈fR C:=fun b hb=>dG.2 ⟨r,oc,h2,hb⟩
 have hv0':v0=mkV true oc:=by
  obtain ⟨oc',h3,h4⟩:=hv0
  rw [h2] at h3; injection h3 with h3; subst h3; exact h4
 have hMe:(fun b=>False\/b∈oc.fp)=(fun b=>b∈oc.fp):=by funext b; simp
 rw [hv0']
 refine (hF (fun _=>False) oc vs w (fun b hb=>hb.elim) ((hw.obs r _ oc hor h2).weak fun b hb=>hb.elim False.elim fun h=>.inr (hocC b h)) ((eE.1 hw.nodup).1 r oc h2) (fun b hb=>⟨hw.lt b (hocC b hb),fun h=>h⟩)
  (hw.glob.frame (fun b _ hb=>hb.elim False.elim fun h=>.inr (hocC b h)) (aB _) (fun _ _ _=>rfl)) (by rw [hMe]; exact aD4 hw hor h2 L hL) (by rw [hMe]; exact aFN ss ds vs hw hor h2 hn ha hl hv)).mono ?_
 rintro e w' ⟨x',rs,us,fo,fp,rfl,hR,hob,hrs,hnd,hmem,hg⟩
 obtain ⟨o1,o2⟩:=hok x' rs hR
 refine aGa (bx:=true) hw hor h2 hR ?_ (rW _ _ _ o2 hrs) hnd hmem hg
 obtain ⟨cs,fps,k1,k2,k3⟩:=hob
 exact ⟨cs,fps,k1,uO _ _ _ o1 k2,k3⟩
def D.isStB:D->Bool
 | .st _=>true
 | _=>false
theorem aGS {f:FuncId} {r:Nat} {xs:D} {v0:Value} {vs:List Value} {ss:List SV} {ds:List D} {R:D->List D->Prop} (hw:RelW c o C w) (hor:o[r]?=some (.box (.st xs))) (hv0:dX w (Ms c C) C (.vw r) v0)
  (ha:jH o ss ds) (hd:ss.all isD=true) (hl:vs.length=ss.length)
  (hv:∀ (i:Nat) (s:SV) (v:Value),ss[i]?=some s->vs[i]?=some v->dX w (Ms c C) C s v) (hF:wQ c.G f false (.st xs) ds R) :
  Calls c.P f (v0 :: vs).toArray w fun e w'=>∃ x' rs v C',e=.returned v/\R x' rs/\RelW c (eG rs (o.set r (.box x'))).2 C' w' /\
   (∀ (e e':jP) (a:Act),gX w c C e a->(∀ t,look e' t=if gP r (look e t) then .any else look e t)->gX w' c C' e' a)/\dX w' (Ms c C') C' (n8 (eG rs (o.set r (.box x'))).1) v:=by
 have hro:=c6 hor
 obtain ⟨oc,h2⟩:∃ oc,C[r]?=some oc:=⟨C[r]'(by rw [<- hw.len]; exact hro),List.getElem?_eq_getElem _⟩
 have hr:=c6 h2
 have hocC:∀ b∈oc.fp,b∈fR C:=fun b hb=>dG.2 ⟨r,oc,h2,hb⟩
 have hnC:=eE.1 hw.nodup
 obtain ⟨cs,fps,hrow,hrep,hfp⟩:=hw.obs r _ oc hor h2
 obtain ⟨oc',cs',h3,_,hrow',hv0⟩:=hv0
 rw [h2] at h3; injection h3 with h3; subst h3
 have hcc:=jA.eq hrow' hrow
 subst hcc
 have hndo:=aF.1 (by have:=hnC.1 r oc h2; rwa [hfp] at this)
 have hfC:∀ b∈fps,b∈fR C:=fun b hb=>hocC b (by rw [hfp]; exact aL _ hb)
 let M:Nat->Prop:=fun b=>Ms c C b/\b ∉ fps
 have hMe:(fun b=>M b\/b∈fps)=Ms c C:=by
  funext b
  refine propext ⟨fun h=>?_,fun h=>?_⟩
  ·rcases h with h|h
   ·exact h.1
   ·exact .inr (hfC b h)
  ·by_cases hb:b∈fps
   ·exact .inr hb
   ·exact .inl ⟨h,hb⟩
 have hvs:=oS (M:=Ms c C) (w:=w) ss ds vs ha hd hl hv
 rw [<- hMe] at hvs
 rw [hv0]
 refine (hF M { v:=.agg cs'.toArray,blk:=0,fp:=fps } vs w (fun b hb=>Ms.lt hw hb.1) (by rw [hMe]; exact ⟨cs',hrep,rfl⟩) hndo.2 (fun b hb=>⟨hw.lt b (hfC b hb),fun h=>h.2 hb⟩) (by rw [hMe]; exact hw.glob) hvs).mono ?_
 rintro e w' ⟨x',rs,us,fo,fp,rfl,hR,hob,hrs,hnd,hmem,hg⟩
 obtain ⟨ds',hrep',hval'⟩:=hob
 simp only at hval'
 have hst:∃ xs',x'=.st xs':=by
  have hone:=qQ _ _ _ hrep'
  have hno:x'.isStB=false->False:=by
   intro hx
   have hp:iU x' ds'=ds'.headD Go.undef:=by cases x'<;>first|rfl|cases hx
   rw [hp] at hval'
   cases ds' with
   | nil=>simp [Go.undef] at hval'
   | cons u us =>
    have:=hone u (by simp)
    simp only [bA] at hval'
    rw [<- hval'] at this
    cases this
  cases x'<;>first|exact ⟨_,rfl⟩|exact (hno rfl).elim
 obtain ⟨xs',rfl⟩:=hst
 have hcs:ds'=cs':=by
  have:(Value.agg cs'.toArray)=.agg ds'.toArray:=hval'
  injection this with this
  simpa using congrArg Array.toList this.symm
 subst hcs
 have hblt:oc.blk < w.heap.size:=hw.lt _ (hocC _ (by rw [hfp]; simp))
 have hrow2:=hrow.frame (hg.kept oc.blk hblt hndo.1)
 have hbo:oc.blk ∉ fo ++ fp:=fun hb=>by
  rcases (hmem _ hb).1 with h|h
  ·exact hndo.1 h
  ·omega
 obtain ⟨obs,ocs,k3,k4,k5,k6,k7,k8⟩:=n7 rs us fp (o.set r (.box (.st xs'))) hrs
 have hM:∀ b,Ms c (C.set r { oc with fp:=oc.blk :: fo } ++ ocs) b↔(M b\/b∈fo ++ fp):=by
  intro b
  constructor
  ·rintro (h|h)
   ·exact .inl ⟨.inl h,fun hb=>hw.apart b (hfC b hb) h⟩
   ·obtain ⟨j,od,hj,hb⟩:=dG.1 h
    rcases gV hr hj with ⟨_,rfl⟩|⟨hne,_,hj⟩|⟨_,hj⟩
    ·rcases aE.1 hb with rfl|hb
     ·exact .inl ⟨.inr (hocC _ (by rw [hfp]; simp)),hndo.1⟩
     ·exact .inr (aV _ hb)
    ·exact .inl ⟨.inr (dG.2 ⟨j,od,hj,hb⟩),fun hb'=>hnC.2 j r od oc hne hj h2 b hb (by rw [hfp]; exact aL _ hb')⟩
    ·exact .inr (aQ _ (by rw [<- k5]; exact dG.2 ⟨_,od,hj,hb⟩))
  ·rintro (⟨h,hb⟩|h)
   ·rcases h with h|h
    ·exact .inl h
    ·obtain ⟨j,od,hj,hbj⟩:=dG.1 h
     by_cases hne:j=r
     ·subst hne
      rw [h2] at hj; injection hj with hj; subst hj
      rw [hfp] at hbj
      rcases aE.1 hbj with rfl|hbj
      ·exact .inr (dG.2 ⟨j,{ oc with fp:=oc.blk :: fo },by rw [List.getElem?_append_left (by simpa using hr),List.getElem?_set,if_pos rfl,if_pos hr],by simp⟩)
      ·exact absurd hbj hb
     ·exact .inr (dG.2 ⟨j,od,by rw [List.getElem?_append_left (by simpa using c6 hj),List.getElem?_set,if_neg (fun h=>hne h.symm)]; exact hj,hbj⟩)
   ·rcases aA.1 h with h|h
    ·exact .inr (dG.2 ⟨r,{ oc with fp:=oc.blk :: fo },by rw [List.getElem?_append_left (by simpa using hr),List.getElem?_set,if_pos rfl,if_pos hr],aL _ h⟩)
    ·rw [<- k5] at h
     obtain ⟨j,od,hj,hbj⟩:=dG.1 h
     refine .inr (dG.2 ⟨C.length + j,od,?_,hbj⟩)
     rw [List.getElem?_append_right (by simp)]
     simpa using hj
 have hM2:(fun b=>M b\/b∈fo ++ fp)=Ms c (C.set r { oc with fp:=oc.blk :: fo } ++ ocs):=by funext b; exact propext (hM b).symm
 rw [hM2] at hrep' hrs k6 k8
 have hg2:Went w w' (fun b=>b∈oc.fp):=⟨hg.os,hg.tape,hg.output,hg.size,fun b hb hX=>hg.kept b hb (fun h=>hX (by rw [hfp]; exact aL _ h))⟩
 have hput:=aJR (ob':=.box (.st xs')) (oc':={ oc with fp:=oc.blk :: fo }) (obs:=obs) (ocs:=ocs) hw hor h2 hg2 rfl rfl k4 (by rw [k5,bZ]; exact aF.2 ⟨hbo,hnd⟩) (by
   rw [k5,bZ]
   intro b hb
   rcases aE.1 hb with rfl|hb
   ·exact ⟨.inl (by rw [hfp]; simp),aZ hblt hg.size⟩
   ·refine ⟨?_,(hmem b hb).2⟩
    rcases (hmem b hb).1 with h|h
    ·exact .inl (by rw [hfp]; exact aL _ h)
    ·exact .inr h) ⟨_,fo,hrow2,hrep',rfl⟩ (fun j ob oc1 hj1 hj2=>by
  obtain ⟨y,cs,rfl,h9,iY⟩:=k6 j ob oc1 hj1 hj2
  exact ⟨cs,h9,iY⟩) (fun s v=>by intro h; cases h) (fun j s v hj=>by
  have hl:=c6 hj
  obtain ⟨y,cs,h9,_⟩:=k6 j _ (ocs[j]'(by omega)) hj (List.getElem?_eq_getElem _)
  cases h9)
 rw [<- k3] at hput
 refine ⟨.st xs',rs,_,_,rfl,hR,hput.1,fun e e' a h1 h3=>hput.2 e a e' h1 h3,aC8 k7 fun i s u hs hu=>?_⟩
 rcases k8 i s u hs hu with ⟨y,cs,rfl,h9,iY⟩|⟨k,oc1,rfl,h9,iY⟩
 ·exact ⟨cs,h9,iY⟩
 ·refine ⟨oc1,?_,iY.symm⟩
  have:(o.set r (.box (.st xs'))).length=C.length:=by simp [hw.len]
  rw [this,List.getElem?_append_right (by simp)]
  simpa using h9
end
def kD (q:Nat) (y:D):SV->SV
 | .own r=>if r=q then .d y else .own r
 | s=>if gQ q s then .any else s
def lA (q:Nat) (y:D):jP->jP
 | []=>[]
 |(t,s) :: e=>(t,kD q y s) :: lA q y e
theorem aFX (q:Nat) (y:D):∀ (e:jP) (t:Nat),look (lA q y e) t=kD q y (look e t)
 | [],t=>by simp [lA,look,kD,gQ,k0]
 |(k,s) :: e,t=>by
  simp only [lA,look]
  by_cases h:k=t
  ·simp only [h,if_true]
  ·simp only [h,if_false]; exact aFX q y e t
def m8 (q:Nat) (s:St):St:=match s.o[q]? with
 | some (.val x)=>⟨lA q x.unown s.e,s.o.set q .dead⟩
 | _=>s
theorem aC6 {c:Ctx} {s:St} {C:List OC} {a:Act} {w:World} (q:Nat) (hr:Rel c s C a w):∃ C',Rel c (m8 q s) C' a w:=by
 unfold m8
 split
 ·rename_i x hq
  have hql:=c6 hq
  have hlen:=hr.wd.len
  obtain ⟨oc,hC⟩:∃ oc,C[q]?=some oc:=⟨C[q]'(by omega),List.getElem?_eq_getElem _⟩
  have hCl:=c6 hC
  have hnC:=eE.1 hr.wd.nodup
  let C':=C.set q { oc with fp:=[] }
  have get:∀ (j:Nat) (od:OC),C'[j]?=some od->(j=q/\od={ oc with fp:=[] })\/(j≠q/\C[j]?=some od):=by
   intro j od hj
   rw [List.getElem?_set] at hj
   by_cases e:q=j
   ·rw [if_pos e,if_pos (by omega)] at hj; injection hj with hj; exact .inl ⟨e.symm,hj.symm⟩
   ·rw [if_neg e] at hj; exact .inr ⟨fun h=>e h.symm,hj⟩
  have hsub:∀ b∈fR C',b∈fR C/\b ∉ oc.fp:=by
   intro b hb
   obtain ⟨j,od,hj,hb'⟩:=dG.1 hb
   rcases get j od hj with ⟨_,rfl⟩|⟨hne,hj⟩
   ·cases hb'
   ·exact ⟨dG.2 ⟨j,od,hj,hb'⟩,fun h=>hnC.2 j q od oc hne hj hC b hb' h⟩
  have hmem:∀ b∈fR C',(b∈fR C\/w.heap.size<=b)/\b < w.heap.size:=fun b hb=>⟨.inl (hsub b hb).1,hr.wd.lt b (hsub b hb).1⟩
  have hg:=aZH (mO.refl w) (fun _=>False)
  have hX:∀ b,(fun _=>False:Nat->Prop) b->b∈fR C:=fun b hb=>hb.elim
  have hwd:RelW c (s.o.set q .dead) C' w:=by
   have hold:∀ (p r:Nat) (v:Value),(s.o.set q .dead)[p]?=some (.tag r v)->s.o[p]?=some (.tag r v):=by
    intro p r v hp
    rw [List.getElem?_set] at hp
    by_cases e:q=p
    ·rw [if_pos e] at hp
     split at hp
     ·injection hp with hp; cases hp
     ·cases hp
    ·rw [if_neg e] at hp; exact hp
   refine hr.wd.upd hg hX (by simp [C',hlen]) ?_ ?_ hmem (fun p r v hp=>.inl (hold p r v hp)) (fun p r v od _ h=>by
    by_cases e:q=r
    ·subst e
     rw [hC] at h
     injection h with h
     subst h
     exact ⟨{ oc with fp:=[] },by rw [List.getElem?_set]; simp [hCl],rfl⟩
    ·exact ⟨od,by rw [List.getElem?_set,if_neg e]; exact h,rfl⟩)
   ·intro j ob ocj h1 h2
    rcases get j ocj h2 with ⟨e,rfl⟩|⟨hne,h3⟩
    ·rw [e,List.getElem?_set,if_pos rfl,if_pos hql] at h1
     injection h1 with h1
     subst h1
     exact .inr rfl
    ·rw [List.getElem?_set,if_neg (fun h=>hne h.symm)] at h1
     exact .inl ⟨h1,h3,fun _ _ h=>h⟩
   ·refine eE.2 ⟨fun j od hj=>?_,fun j i od oe hne hj hi b hb hb'=>?_⟩
    ·rcases get j od hj with ⟨_,rfl⟩|⟨_,hj⟩
     ·exact aJ
     ·exact hnC.1 j od hj
    ·rcases get j od hj with ⟨_,rfl⟩|⟨_,hj⟩
     ·cases hb
     ·rcases get i oe hi with ⟨_,rfl⟩|⟨_,hi⟩
      ·cases hb'
      ·exact hnC.2 j i od oe hne hj hi b hb hb'
  refine ⟨C',hr.tmps,hr.defers,fun t=>?_,hwd,hr.fix⟩
  simp only [aFX]
  have hv:=hr.env t
  generalize look s.e t=sv at *
  generalize a.tmps.getD t Go.undef=v at *
  have other:∀ sv:SV,(∀ xs,sv≠.tup xs)->k0 q sv=false->dX w (Ms c C) C sv v->dX w (Ms c C') C' sv v:=by
   intro sv hn h0 hv
   refine uB (iG.upd (X:=fun _=>False) hg hX hmem ?_ ?_ ?_)
   ·intro r od h1 h2
    have hne:r≠q:=fun e=>by rw [e,h0] at h1; cases h1
    exact ⟨od,by rw [List.getElem?_set,if_neg (fun h=>hne h.symm)]; exact h2,rfl,rfl⟩
   ·intro r od od' h1 h2 h3 h4
    subst h1
    have hne:r≠q:=fun e=>by rw [e] at h0; simp [k0] at h0
    rw [List.getElem?_set,if_neg (fun h=>hne h.symm),h2] at h4
    injection h4 with h4
    subst h4
    exact ⟨h3,fun h=>h⟩
   ·cases sv<;>first|exact hv|exact absurd rfl (hn _)
  cases sv with
  | own r =>
   simp only [kD]
   by_cases e:r=q
   ·subst e
    rw [if_pos rfl]
    obtain ⟨oc1,h1,h2⟩:=hv
    rw [hC] at h1
    injection h1 with h1
    subst h1
    obtain ⟨cs,h3,h4⟩:=hr.wd.obs r _ oc hq hC
    refine ⟨cs,jE _ _ _ ?_ ?_ h3,by rw [oR]; exact h2.trans h4⟩
    ·intro b hb
     rcases hb with hb|hb
     ·exact .inl hb
     ·exact .inr (hsub b hb).1
    ·intro b hb hm
     rcases hm with hm|hm
     ·exact hr.wd.apart b (dG.2 ⟨r,oc,hC,hb⟩) hm
     ·exact (hsub b hm).2 hb
   ·rw [if_neg e]
    exact other _ (fun xs h=>by cases h) (by simp [k0,e]) hv
  | tup xs =>
   simp only [kD]
   split
   ·trivial
   ·rename_i h0
    obtain ⟨vs,k1,k2,k3⟩:=hv
    refine ⟨vs,k1,k2,fun i sx u hsi hu=>?_⟩
    have hx0:k0 q sx=false:=by
     simp only [gQ,aS,not_exists,not_and,Bool.not_eq_true] at h0
     exact h0 sx (bE hsi)
    refine iG.upd (X:=fun _=>False) hg hX hmem ?_ ?_ (k3 i sx u hsi hu)
    ·intro r od h1 h2
     have hne:r≠q:=fun e=>by rw [e,hx0] at h1; cases h1
     exact ⟨od,by rw [List.getElem?_set,if_neg (fun h=>hne h.symm)]; exact h2,rfl,rfl⟩
    ·intro r od od' h1 h2 h3 h4
     subst h1
     have hne:r≠q:=fun e=>by rw [e] at hx0; simp [k0] at hx0
     rw [List.getElem?_set,if_neg (fun h=>hne h.symm),h2] at h4
     injection h4 with h4
     subst h4
     exact ⟨h3,fun h=>h⟩
  | any=>trivial
  | undef=>exact hv
  | d y=>exact other _ (fun xs h=>by cases h) rfl hv
  | nil=>exact hv
  | ptr r off p =>
   simp only [kD]
   split
   ·trivial
   ·rename_i h0; exact other _ (fun xs h=>by cases h) (by simpa [gQ] using h0) hv
  | el r es i off p =>
   simp only [kD]
   split
   ·trivial
   ·rename_i h0; exact other _ (fun xs h=>by cases h) (by simpa [gQ] using h0) hv
  | vw r =>
   simp only [kD]
   split
   ·trivial
   ·rename_i h0; exact other _ (fun xs h=>by cases h) (by simpa [gQ] using h0) hv
  | win r es lo =>
   simp only [kD]
   split
   ·trivial
   ·rename_i h0; exact other _ (fun xs h=>by cases h) (by simpa [gQ] using h0) hv
 ·exact ⟨C,hr⟩
def kK {α:Type} (s:St) (S:α->St):Prop:=∀ (c:Ctx) (C:List OC) (a:Act) (w:World),Rel c s C a w->∃ x C',Rel c (S x) C' a w
theorem kK.refl (s:St):kK s (fun _:Unit=>s):=fun _ C _ _ hr=>⟨(),C,hr⟩
theorem aZY (q:Nat) (s:St):kK s (fun _:Unit=>m8 q s):=fun _ _ _ _ hr=>⟨(),aC6 q hr⟩
theorem kK.sig {α:Type} {β:α->Type} {s:St} {S:α->St} {T:(x:α)->β x->St} (h:kK s S) (k:∀ x,kK (S x) (T x)):kK s (fun p:(x:α)×β x=>T p.1 p.2):=fun c C a w hr=>by
 obtain ⟨x,C1,hr1⟩:=h c C a w hr
 obtain ⟨y,C2,hr2⟩:=k x c C1 a w hr1
 exact ⟨⟨x,y⟩,C2,hr2⟩
end Go.Pe
namespace Go.Pe
open Go Go.RowKit Go.MapKept
theorem aVJ (a b:List UInt8):((⟨a.toArray⟩:ByteArray) == ⟨b.toArray⟩)=decide (a=b):=by
 by_cases h:a=b
 ·subst h
  rw [(bytes_beq _ _).2 rfl,decide_eq_true rfl]
 ·rw [decide_eq_false h]
  cases hb:((⟨a.toArray⟩:ByteArray) == ⟨b.toArray⟩) with
  | false=>rfl
  | true =>
   have e:=(bytes_beq _ _).1 hb
   injection e with e
   exact absurd (by simpa using e) h
def lkp:List (List UInt8×Int)->List UInt8->Option Int
 | [],_=>none
 |(k,n) :: r,s=>if s=k then some n else lkp r s
theorem aAa (s:List UInt8):∀ (l:List MapEntry) (kvs:List (List UInt8×Int)) (i:Nat),l.map (fun e=>(e.key,e.val))=kvs.map kvV ->
  ∃ r,Instr.findNow .string (.string ⟨s.toArray⟩) l i=some r/\((lkp kvs s=none/\r=none)\/∃ j n,lkp kvs s=some n/\r=some (j,.int .i64 n))
 | [],[],i,_=>⟨none,rfl,.inl ⟨rfl,rfl⟩⟩
 | [],_ :: _,i,h=>by cases h
 | _ :: _,[],i,h=>by cases h
 | e :: l,(k,n) :: kvs,i,h=>by
  simp only [a8,kvV,List.cons.injEq,Prod.mk.injEq] at h
  obtain ⟨⟨hk,hv⟩,ht⟩:=h
  obtain ⟨r,h1,h2⟩:=aAa s l kvs (i + 1) ht
  simp only [Instr.findNow,hk,Instr.sameNow,aVJ,lkp]
  by_cases e1:s=k
  ·rw [decide_eq_true e1,if_pos e1]
   exact ⟨_,rfl,.inr ⟨i,n,rfl,by rw [hv]⟩⟩
  ·rw [decide_eq_false e1,if_neg e1]
   exact ⟨r,h1,h2⟩
theorem aKJ {P:Program} {w:World} {t kt et:TypeId} {b:Nat} {es:Array MapEntry} {clock:Nat} {kvs:List (List UInt8×Int)} (ht:P.underlying t=some (.map kt et)) (hk:P.underlying kt=some .string)
  (hb:w.heap[b]?=some (.map es clock)) (he:es.toList.map (fun e=>(e.key,e.val))=kvs.map kvV) (s:List UInt8) (n:Int) (hn:lkp kvs s=none) :
  (Instr.mapUpdate t (.map (some b)) (.string ⟨s.toArray⟩) (.int .i64 n)).run P w=.ok () { w with heap:=w.heap.setIfInBounds b (.map (es.push { key:=.string ⟨s.toArray⟩,val:=.int .i64 n,born:=clock }) (clock + 1)) }:=by
 obtain ⟨r,h1,h2⟩:=aAa s es.toList kvs 0 he
 rcases h2 with ⟨_,rfl⟩|⟨j,m,h2,_⟩
 ·simp [Instr.mapUpdate,run_underlying ht,MapKept.run_getObj_map hb,run_checkKey hk (k:=.string ⟨s.toArray⟩) (by simp [IsKey]),run_findKey hk h1,MapKept.run_setObj_map _ hb,a7]
 ·rw [hn] at h2; cases h2
theorem aJK {P:Program} {w:World} {t kt et:TypeId} {i:TypeInfo} {b:Nat} {es:Array MapEntry} {clock:Nat} {kvs:List (List UInt8×Int)} (ht:P.underlying t=some (.map kt et)) (hk:P.underlying kt=some .string) (hi:P.info? et=some i) (hz:i.zero=some (.int .i64 0))
  (hb:w.heap[b]?=some (.map es clock)) (he:es.toList.map (fun e=>(e.key,e.val))=kvs.map kvV) (s:List UInt8) :
  (Instr.lookup t (.map (some b)) (.string ⟨s.toArray⟩) true).run P w=.ok (.tuple #[.int .i64 ((lkp kvs s).getD 0),.bool (lkp kvs s).isSome]) w:=by
 obtain ⟨r,h1,h2⟩:=aAa s es.toList kvs 0 he
 rcases h2 with ⟨h2,rfl⟩|⟨j,m,h2,rfl⟩
 ·simp [Instr.lookup,run_underlying ht,MapKept.run_getObj_map hb,run_checkKey hk (k:=.string ⟨s.toArray⟩) (by simp [IsKey]),run_findKey hk h1,a7,zeroValue,typeInfo,hi,hz,h2]
 ·simp [Instr.lookup,run_underlying ht,MapKept.run_getObj_map hb,run_checkKey hk (k:=.string ⟨s.toArray⟩) (by simp [IsKey]),run_findKey hk h1,a7,h2]
def aGW (P:Program) (t:TypeId):Option TypeId :=
 match P.underlying t with
 | some (.map k e)=>match P.underlying k with
  | some .string=>some e
  | _=>none
 | _=>none
theorem aFL {P:Program} {t e:TypeId} (h:aGW P t=some e):∃ k,P.underlying t=some (.map k e)/\P.underlying k=some .string:=by
 unfold aGW at h
 split at h
 ·rename_i k e' h1
  split at h
  ·rename_i h2
   injection h with h
   subst h
   exact ⟨k,h1,h2⟩
  ·cases h
 ·cases h
def aO7:Option Value->Bool
 | some (.int .i64 0)=>true
 | _=>false
theorem aOW {v:Option Value} (h:aO7 v=true):v=some (.int .i64 0):=by
 unfold aO7 at h
 split at h
 ·rfl
 ·cases h
section
variable {c : Ctx} {o : List Ob} {C : List OC} {w w' : World}
theorem aTj (hw:RelW c o C w):RelW c (o ++ [.mp []]) (C ++ [{ v:=.map (some w.heap.size),blk:=w.heap.size,fp:=[w.heap.size] }]) (w.alloc (.map #[] 0)) /\
  ∀ (e:jP) (a:Act),gX w c C e a->gX (w.alloc (.map #[] 0)) c (C ++ [{ v:=.map (some w.heap.size),blk:=w.heap.size,fp:=[w.heap.size] }]) e a:=by
 have hx:mO w (w.alloc (.map #[] 0)):=⟨rfl,rfl,rfl,by show w.heap.size<=(w.heap.push _).size; simp,fun b hb=>(heap_alloc w _).2 b hb⟩
 refine aWn hw (obs:=[.mp []]) (ocs:=[{ v:=.map (some w.heap.size),blk:=w.heap.size,fp:=[w.heap.size] }]) hx rfl (by simp [fR]) (fun b hb=>?_) (fun j ob oc h1 h2=>?_) (fun j r v h=>?_)
 ·simp only [fR,List.flatMap_cons,bAa,aU,bB] at hb
  subst hb
  exact ⟨aB _,by show w.heap.size < (w.heap.push _).size; simp⟩
 ·cases j with
  | zero =>
   simp only [List.getElem?_cons_zero,Option.some.injEq] at h1 h2
   subst h1 h2
   exact ⟨#[],0,(heap_alloc w _).1,rfl,rfl,rfl⟩
  | succ j=>simp at h1
 ·cases j<;>simp at h
theorem aSU (hw:RelW c o C w) {r:Nat} {kvs:List (List UInt8×Int)} {oc:OC} (h1:o[r]?=some (.mp kvs)) (h2:C[r]?=some oc) {es:Array MapEntry} {clock:Nat} (hb:w.heap[oc.blk]?=some (.map es clock))
  (he:es.toList.map (fun e=>(e.key,e.val))=kvs.map kvV) (hv:oc.v=.map (some oc.blk)) (hf:oc.fp=[oc.blk]) (s:List UInt8) (n:Int) :
  RelW c (o.set r (.mp (kvs ++ [(s,n)]))) C { w with heap:=w.heap.setIfInBounds oc.blk (.map (es.push { key:=.string ⟨s.toArray⟩,val:=.int .i64 n,born:=clock }) (clock + 1)) } /\
  ∀ (e:jP) (a:Act),gX w c C e a->gX { w with heap:=w.heap.setIfInBounds oc.blk (.map (es.push { key:=.string ⟨s.toArray⟩,val:=.int .i64 n,born:=clock }) (clock + 1)) } c C (nY (gP r) e) a:=by
 have hs:=heap_set (o':=.map (es.push { key:=.string ⟨s.toArray⟩,val:=.int .i64 n,born:=clock }) (clock + 1)) hb
 have hg:Went w { w with heap:=w.heap.setIfInBounds oc.blk (.map (es.push { key:=.string ⟨s.toArray⟩,val:=.int .i64 n,born:=clock }) (clock + 1)) } (fun b=>b∈oc.fp) :=
  ⟨rfl,rfl,rfl,by simp,fun b _ hn=>hs.2 b (fun e=>hn (by rw [hf,e]; simp))⟩
 have hput:=aJR (ob':=.mp (kvs ++ [(s,n)])) (oc':=oc) (obs:=[]) (ocs:=[]) hw h1 h2 hg rfl rfl rfl (by simpa [fR] using (eE.1 hw.nodup).1 r oc h2) (fun b hb=>by
  simp only [fR,bAa,aU] at hb
  exact ⟨.inl hb,by show b < (w.heap.setIfInBounds _ _).size; simpa using hw.lt b (dG.2 ⟨r,oc,h2,hb⟩)⟩)
  ⟨_,_,hs.1,by simp only [Array.toList_push,bAd,he,a8,aZ6,kvV],hv,hf⟩ (fun j ob oc1 h=>by simp at h) (fun s v h=>by cases h) (fun j s v h=>by simp at h)
 have e:C.set r oc=C:=by
  refine List.ext_getElem? fun j=>?_
  rw [List.getElem?_set]
  split
  ·rename_i e; subst e
   split
   ·exact h2.symm
   ·rename_i h; exact absurd (c6 h2) h
  ·rfl
 rw [aU,aU,e] at hput
 exact ⟨hput.1,fun e a h=>hput.2 e a _ h (fun t=>lK (gP r) rfl _ t)⟩
end
end Go.Pe
namespace Go.Pe
open Go Go.RowKit
def aNR:List (Nat×Operand)->Option (List (Nat×Opd))
 | []=>some []
 |(i,x) :: xs=>match oN x,aNR xs with
  | some p,some ps=>some ((i,p) :: ps)
  | _,_=>none
def aK7 (P:Program) (fs:Array Field) (zs:D):Bool :=
 zs.len == fs.size && (List.range fs.size).all fun i=>match zs.nth i,fs[i]? with
  | some u,some f=>zs.pre i == f.offset && e7 P f.type == some u.size
  | _,_=>false
def aK1 (P:Program) (ts:Array TypeId) (xs:Array Operand):Option MO :=
 match ts,xs with
 | ⟨[t,t']⟩,⟨[x,y]⟩=>if t=t' then match P.underlying t,oN x,oN y with
  | some (.slice e),some x,some y=>match P.info? e with
   | some i=>match i.zero with
    | some z=>if z.cells.size=i.size then some (.app i.size i.bytes x y) else none
    | none=>none
   | none=>none
  | _,_,_=>none
  else none
 | _,_=>none
def aS5 (P:Program) (t:TypeId) (p:Opd):Option MO :=
 match P.underlying t with
 | some (.slice e)=>match zD P e,P.info? e with
  | some z,some i=>some (.mk i.size i.bytes z p)
  | _,_=>none
 | _=>none
def aJn (P:Program) (t:TypeId) (n m:Operand):Option MO :=
 match n,m with
 | .tmp a,.tmp b=>if a=b then aS5 P t (.t a) else none
 | .const (.int k a),.const (.int k' b)=>if k=k'/\a=b then aS5 P t (.k (.d (.int k a))) else none
 | _,_=>none
theorem aMw {P:Program} {t:TypeId} {n m:Operand} {mo:MO} (h:aJn P t n m=some mo):∃ p,n=m/\oN n=some p/\aS5 P t p=some mo:=by
 unfold aJn at h
 split at h
 ·split at h
  ·rename_i e; subst e; exact ⟨_,rfl,rfl,h⟩
  ·cases h
 ·split at h
  ·rename_i e; obtain ⟨rfl,rfl⟩:=e; exact ⟨_,rfl,rfl,h⟩
  ·cases h
 ·cases h
def aLJ (P:Program) (s d:TypeId) (x:Operand):Option MO :=
 match P.underlying s,P.underlying d,oN x with
 | some .string,some (.slice e),some x=>match P.underlying e with
  | some (.int .u8)=>some (.s2b x)
  | _=>none
 | _,_,_=>none
def aP5 (P:Program) (t:TypeId) (len:Nat) (ps:Array (Nat×Operand)):Option MO :=
 match P.underlying t,aNR ps.toList with
 | some (.slice e),some ps=>match zD P e with
  | some z=>if 0 < z.size/\len * z.size<=16777216 then some (.bs z.size len z ps) else none
  | none=>none
 | _,_=>none
def aKS (P:Program) (t:TypeId) (ps:Array (Nat×Operand)):Option MO :=
 match P.underlying t,aNR ps.toList,zD P t with
 | some (.struct fs),some ps,some (.st zs)=>if aK7 P fs zs then some (.bld zs ps) else none
 | _,_,_=>none
def aA6 (P:Program) (neg:Bool) (t:TypeId) (x:Operand):Option MO :=
 match P.underlying t,oN x with
 | some (.slice _),some x=>some (.snil neg x)
 | _,_=>none
def aLF (P:Program) (ts:Array TypeId) (xs:Array Operand):Option MO :=
 match ts,xs with
 | ⟨[t]⟩,⟨[x]⟩=>match P.underlying t,oN x with
  | some (.slice e),some x=>match zD P e,P.info? e with
   | some z,some i=>some (.clr i.size z x)
   | _,_=>none
  | _,_=>none
 | _,_=>none
def aKT (P:Program) (t:TypeId) (x hi:Operand):Option MO :=
 match P.underlying t,oN x,oN hi with
 | some (.slice e),some x,some hi=>(e7 P e).map fun n=>.cut n x hi
 | _,_,_=>none
def aKV (P:Program) (t:TypeId) (m k v:Operand):Option MO :=
 match aGW P t,oN m,oN k,oN v with
 | some _,some m,some k,some v=>some (.ins m k v)
 | _,_,_,_=>none
def aLI (P:Program) (t:TypeId) (m k:Operand):Option MO :=
 match aGW P t,oN m,oN k with
 | some e,some m,some k=>match P.info? e with
  | some i=>if aO7 i.zero=true then some (.lkp m k) else none
  | none=>none
 | _,_,_=>none
def aPj (P:Program) (op:Op):Option MO :=
 match op with
 | .box _ x=>(oN x).map .box
 | .alloc t=>(zD P t).map .alloc
 | .store t x v=>match e7 P t,oN x,oN v with
  | some n,some x,some v=>some (.st n x v)
  | _,_,_=>none
 | .buildSlice t len ps=>aP5 P t len ps
 | .build t ps=>aKS P t ps
 | .makeSlice t n m=>aJn P t n m
 | .call { callee:=.builtin .append,args:=xs,argTypes:=ts }=>aK1 P ts xs
 | .call { callee:=.value (.func f),args:=xs,argTypes:=_ }=>s9 P false f xs
 | .call { callee:=.value (.tmp t),args:=xs,argTypes:=_ }=>(aG3 xs.toList).map fun ps=>.callW (.t t) ps
 | .call { callee:=.builtin .clear,args:=xs,argTypes:=ts }=>aLF P ts xs
 | .slice t x none (some hi) none=>aKT P t x hi
 | .binOp .eql t x (.const (.slice none 0 0)) _=>aA6 P false t x
 | .binOp .neq t x (.const (.slice none 0 0)) _=>aA6 P true t x
 | .convert s d x=>aLJ P s d x
 | .makeMap _ none=>some .mkm
 | .insert t m k v=>aKV P t m k v
 | .lookup t m k true=>aLI P t m k
 | _=>none
def pM (e:jP):Opd->SV
 | .t n=>look e n
 | .k s=>s
theorem aVe (e:jP) (p:Opd):pM e p=jM (look e) p:=by cases p<;>rfl
def nN (e:jP):List (Nat×Opd)->List (Nat×SV)
 | []=>[]
 |(i,p) :: ps=>(i,pM e p) :: nN e ps
def lU (e:jP):List Opd->List SV
 | []=>[]
 | p :: ps=>pM e p :: lU e ps
def aT0 (P:PG) (s:St) (f:FuncId) (as:List SV) (K:SV->St->Prop):Prop :=
 ∃ ds R,jH s.o as ds/\Fn P f ds R/\∀ rs,R rs->(as.all isD=true\/rs.all D.allOwn=true)/\K (n8 (eG rs s.o).1) ⟨s.e,(eG rs s.o).2⟩
def aPS (P:PG) (s:St) (f:FuncId) (as:List SV) (K:SV->St->Prop):Prop :=
 ∃ r xs ss ds R,as=.vw r :: ss/\s.o[r]?=some (.box (.st xs))/\jH s.o ss ds/\ss.all isD=true/\wQ P f false (.st xs) ds R /\
  ∀ x' rs,R x' rs->K (n8 (eG rs (s.o.set r (.box x'))).1) ⟨nY (gP r) s.e,(eG rs (s.o.set r (.box x'))).2⟩
def aTU (P:PG) (s:St) (f:FuncId) (as:List SV) (K:SV->St->Prop):Prop :=
 (vZ s.o as fun ds=>∃ R,Fn P f ds R/\∀ rs,R rs->rs.all D.allOwn=true/\K (n8 (eG rs s.o).1) ⟨s.e,(eG rs s.o).2⟩) \/
 (∃ ds L R,jH s.o as ds/\pI s.o L/\FnL P f L ds R/\∀ rs,R rs->rs.all D.allOwn=true/\K (n8 (eG rs s.o).1) ⟨s.e,(eG rs s.o).2⟩) \/
 ∃ r x ss ds L R,as=iZ true r :: ss/\s.o[r]?=some (.box x)/\jH s.o ss ds/\ss.all (aE7 r)=true/\pI s.o L/\aEt P f x L ds R /\
  ∀ x' rs,R x' rs->(x'.allOwn=true/\rs.all D.allOwn=true)/\K (n8 (eG rs (s.o.set r (i8 true x'))).1) ⟨nY (gP r) s.e,(eG rs (s.o.set r (i8 true x'))).2⟩
def aTy (P:PG) (s:St) (f:FuncId) (as:List SV) (K:SV->St->Prop):Prop :=
 ∃ bx r x ss ds R,as=iZ bx r :: ss/\s.o[r]?=some (i8 bx x)/\jH s.o ss ds/\ss.all isD=true/\wQ P f bx x ds R /\
  ∀ x' rs,R x' rs->K (n8 (eG rs (s.o.set r (i8 bx x'))).1) ⟨nY (gP r) s.e,(eG rs (s.o.set r (i8 bx x'))).2⟩
def aHS (neg:Bool) (n:Nat) (K:SV->Prop):Prop:=(n=0->K (.d (.bool (!neg))))/\K (.d (.bool neg))
def mW (o:List Ob) (neg:Bool) (x:SV) (K:SV->Prop):Prop :=
 match x with
 | .nil=>K (.d (.bool (!neg)))
 | .d (.sl _ _ xs)=>aHS neg xs.len K
 | .own r=>∃ es xs ow,o[r]?=some (.val (.sl ow es xs))/\aHS neg xs.len K
 | _=>False
def onV (F:Value->Prop):Prop:=∀ v,F v
def r9 (s:St) (r es:Nat) (ow:Bool) (xs:D) (hi:SV) (K:SV->St->Prop):Prop :=
 match ow,hi with
 | false,hi=>l7 none (some hi) xs.len fun a b=>K (.d (.sl false es (xs.sub a b))) s
 | true,.d (.int _ b)=>(0<=b/\b<=xs.len)/\onV fun v=>K (.own s.o.length) ⟨nY (gP r) s.e,s.o.set r (.val (.lnk 0 v)) ++ [.val (.sl true es (xs.takeD b.toNat))]⟩
 | _,_=>False
def qI (s:St) (es:Nat) (x hi:SV) (K:SV->St->Prop):Prop :=
 match x with
 | .own r=>∃ ow xs,s.o[r]?=some (.val (.sl ow es xs))/\r9 s r es ow xs hi K
 | x=>lW s.o es x none (some hi) fun sv=>K sv s
def vG (s:St) (m k v:SV) (K:SV->St->Prop):Prop :=
 match m,k,v with
 | .own r,.d (.str b),.d (.int .i64 n)=>∃ kvs,s.o[r]?=some (.mp kvs)/\lkp kvs b=none/\K .undef ⟨nY (gP r) s.e,s.o.set r (.mp (kvs ++ [(b,n)]))⟩
 | _,_,_=>False
def uY (s:St) (m k:SV) (K:SV->St->Prop):Prop :=
 match m,k with
 | .own r,.d (.str b)=>∃ kvs,s.o[r]?=some (.mp kvs)/\K (.tup [.d (.int .i64 ((lkp kvs b).getD 0)),.d (.bool (lkp kvs b).isSome)]) s
 | _,_=>False
def gU (P:PG) (s:St) (mo:MO) (K:SV->St->Prop):Prop :=
 match mo with
 | .box x=>nR s.o (pM s.e x) fun y o1 kr=>y.isV=true/\K (.ptr o1.length 0 []) ⟨gN kr s.e,o1 ++ [.box y]⟩
 | .alloc z=>K (.ptr s.o.length 0 []) ⟨s.e,s.o ++ [.box z]⟩
 | .st n x v=>nR s.o (pM s.e v) fun y o1 kr=>y.isV=true/\y.size=n/\kr.all (fun r=>!gQ r (pM s.e x))=true/\uL o1 (pM s.e x) y fun o2 r=>K .undef ⟨nY (gP r) (gN kr s.e),o2⟩
 | .app es bytes x y=>aHa es bytes s.o (pM s.e x) (pM s.e y) fun sv o2 kr kk=>K sv ⟨wX kk (gN kr s.e),o2⟩
 | .bs es len z ps=>jD s.o (kN (aP len z)) (nN s.e ps) fun xs o1 kr=>K (.own o1.length) ⟨gN kr s.e,o1 ++ [.val (.sl true es xs)]⟩
 | .bld z ps=>jD s.o z (nN s.e ps) fun xs o1 kr=>if xs.noOwn then K (.d (.st xs)) ⟨gN kr s.e,o1⟩ else K (.own o1.length) ⟨gN kr s.e,o1 ++ [.val (.st xs)]⟩
 | .mk es bytes z n=>match pM s.e n with
  | .d (.int _ m)=>(0<=m/\(bytes:Int) * m<=281474976710656/\m<=9223372036854775807)/\K (.own s.o.length) ⟨s.e,s.o ++ [.val (.sl true es (kN (aP m.toNat z)))]⟩
  | _=>False
 | .call f args=>∃ (α:Type) (S:α->St),kK s S/\∀ u,aT0 P (S u) f (lU (S u).e args) K\/aTy P (S u) f (lU (S u).e args) K\/aTU P (S u) f (lU (S u).e args) K\/aPS P (S u) f (lU (S u).e args) K
 | .callW f args=>match pM s.e f with
  | .d (.clo g xs)=>(g8 P.P g=true/\xs.caps=true)/\∃ ds R,jH s.o (lU s.e args) ds/\Fn P g (ds ++ xs.list) R/\∀ rs,R rs->((lU s.e args).all isD=true\/rs.all D.allOwn=true)/\K (n8 (eG rs s.o).1) ⟨s.e,(eG rs s.o).2⟩
  | _=>False
 | .snil neg x=>mW s.o neg (pM s.e x) fun sv=>K sv s
 | .s2b x=>match pM s.e x with
  | .d (.str bs)=>K (.own s.o.length) ⟨s.e,s.o ++ [.val (.sl true 1 (eK bs))]⟩
  | _=>False
 | .cut es x hi=>qI s es (pM s.e x) (pM s.e hi) K
 | .clr es z x=>match pM s.e x with
  | .win r es' lo=>es'=es/\∃ xs,s.o[r]?=some (.val (.sl true es xs))/\K .any ⟨nY (gP r) s.e,s.o.set r (.val (.sl true es (aKl lo z xs)))⟩
  | _=>False
 | .mkm=>K (.own s.o.length) ⟨s.e,s.o ++ [.mp []]⟩
 | .ins m k v=>vG s (pM s.e m) (pM s.e k) (pM s.e v) K
 | .lkp m k=>uY s (pM s.e m) (pM s.e k) K
 | _=>False
section
variable {c : Ctx} {s : St} {C : List OC} {a : Act} {w w' : World} {o : Oper} {K : SV -> St -> Prop} {mo : MO}
def aPv (c:Ctx) (a:Act) (o:Oper) (K:SV->St->Prop) (a':Act) (w':World):Prop :=
 ∃ sv st C' v,K sv st/\a'=a.put o.dst v/\dX w' (Ms c C') C' sv v/\RelW c st.o C' w'/\gX w' c C' st.e a
theorem j7 (hr:Rel c s C a w) {x:Operand} {p:Opd} (hx:oN x=some p):dX w (Ms c C) C (pM s.e p) (a.eval x):=by
 rw [aVe]
 exact aGN hx (fun t _=>hr.env t)
theorem aBc (hr:Rel c s C a w):∀ (xs:List (Nat×Operand)) (ps:List (Nat×Opd)),aNR xs=some ps ->
  (xs.map fun p=>(p.1,a.eval p.2)).length=(nN s.e ps).length/\∀ (k:Nat) (p:Nat×SV) (v:Nat×Value),(nN s.e ps)[k]?=some p->(xs.map fun p=>(p.1,a.eval p.2))[k]?=some v->v.1=p.1/\dX w (Ms c C) C p.2 v.2
 | [],ps,h=>by injection h with h; subst h; exact ⟨rfl,fun k p v h=>by simp [nN] at h⟩
 |(i,x) :: xs,ps,h=>by
  unfold aNR at h
  split at h
  ·rename_i q qs h1 h2
   injection h with h
   subst h
   obtain ⟨h3,h4⟩:=aBc hr xs qs h2
   refine ⟨by simpa [nN] using h3,fun k p v hp hv=>?_⟩
   cases k with
   | zero =>
    simp only [nN,a8,List.getElem?_cons_zero,Option.some.injEq] at hp hv
    subst hp hv
    exact ⟨rfl,j7 hr h1⟩
   | succ k=>exact h4 k p v (by simpa [nN] using hp) (by simpa using hv)
  ·cases h
theorem aDM (hr:Rel c s C a w):∀ (xs:List Operand) (ps:List Opd),aG3 xs=some ps ->
  (xs.map a.eval).length=(lU s.e ps).length/\∀ (i:Nat) (q:SV) (v:Value),(lU s.e ps)[i]?=some q->(xs.map a.eval)[i]?=some v->dX w (Ms c C) C q v
 | [],ps,h=>by injection h with h; subst h; exact ⟨rfl,fun k p v h=>by simp [lU] at h⟩
 | x :: xs,ps,h=>by
  unfold aG3 at h
  split at h
  ·rename_i q qs h1 h2
   injection h with h
   subst h
   obtain ⟨h3,h4⟩:=aDM hr xs qs h2
   refine ⟨by simpa [lU] using h3,fun k p v hp hv=>?_⟩
   cases k with
   | zero =>
    simp only [lU,a8,List.getElem?_cons_zero,Option.some.injEq] at hp hv
    subst hp hv
    exact j7 hr h1
   | succ k=>exact h4 k p v (by simpa [lU] using hp) (by simpa using hv)
  ·cases h
theorem jG {Q:Exit->Act->World->Prop} {v:Value} (h:(execOp a.eval o).run c.P w=.ok (.value v) w') (hK:aPv c a o K (a.put o.dst v) w'):o.wp c.P a w (aPv c a o K) Q:=by
 unfold Oper.wp; rw [h]; exact hK
theorem aDh {P:Program} (w:World):∀ (l:List Field),(∀ f∈l,∃ n,e7 P f.type=some n) ->
  (l.mapM (fun f=>do pure (f.offset,<-sizeOf f.type):Field->Sem (Nat×Nat))).run P w=.ok (l.map fun f=>(f.offset,(e7 P f.type).getD 0)) w
 | [],_=>rfl
 | f :: l,h=>by
  obtain ⟨n,hn⟩:=h f (by simp)
  have hn':=hn
  simp only [e7,aI] at hn'
  obtain ⟨i,hi,rfl⟩:=hn'
  have hh:(do pure (f.offset,<-sizeOf f.type):Sem (Nat×Nat)).run P w=.ok (f.offset,i.size) w:=by
   simp [sizeOf,typeInfo,program,bAi,hi]
  have ih:=aDh w l (fun g hg=>h g (by simp [hg]))
  rw [List.mapM_cons,aG,hh,aN,aG,ih,aN,b9,a8,hn]
  rfl
theorem aLA:∀ (xs:D) (i:Nat) (u:D),xs.nth i=some u->i < xs.len:=by
 intro xs
 induction xs with
 | cons a xs ih1 ih2=>intro i u h; cases i with
  | zero=>simp [D.len]
  | succ i=>have:=ih2 i u h; simp only [D.len]; omega
 | _=>intro i u h; cases i<;>cases h
theorem aIV {P:Program} {t e:TypeId} (hu:P.underlying t=some (.slice e)) (w:World) (a:Option Addr) (n cp:Nat):(Op.equal t (.slice a n cp) (.slice none 0 0)).run P w=.ok a.isNone w:=by
 have h:∀ d,(Op.equalIn (d + 1) t (.slice a n cp) (.slice none 0 0)).run P w=.ok a.isNone w:=by
  intro d
  unfold Op.equalIn
  rw [aG,run_underlying hu,aN]
  cases a<;>rfl
 exact h 9999
theorem aIq {neg:Bool} {n:Nat} {K:SV->Prop} (h:aHS neg n K) (b:Bool) (hb:b=true->n=0):K (.d (.bool (if neg then !b else b))):=by
 cases neg<;>cases b
 ·exact h.2
 ·exact h.1 (hb rfl)
 ·exact h.2
 ·exact h.1 (hb rfl)
theorem aH4 (hw:RelW c s.o C w) {neg:Bool} {x:SV} {v:Value} {K:SV->Prop} (hv:dX w (Ms c C) C x v) (h:mW s.o neg x K):∃ a n cp,v=.slice a n cp/\K (.d (.bool (if neg then !a.isNone else a.isNone))):=by
 unfold mW at h
 split at h
 ·have hv:v=.slice none 0 0:=hv
  refine ⟨none,0,0,hv,?_⟩
  cases neg<;>exact h
 ·rename_i ow es xs
  obtain ⟨a,cp,rfl,hr⟩:=uH hv
  refine ⟨a,_,cp,rfl,aIq h _ fun hn=>?_⟩
  obtain ⟨_,a',c',ds,fps,e1,_,_,h4⟩:=hr
  injection e1 with e1 _
  injection e1 with e1 _ _
  subst e1
  cases ow with
  | true =>
   simp only [if_true] at h4
   rcases h4 with ⟨hc,_⟩|⟨g,rfl,_⟩
   ·rename_i e2 _; omega
   ·cases hn
  | false =>
   simp only [aT,if_false] at h4
   rcases h4.2.2 with h5|⟨ad,rfl,_⟩
   ·exact h5
   ·cases hn
 ·rename_i r
  obtain ⟨es,xs,ow,h1,h⟩:=h
  obtain ⟨oc,h2,rfl⟩:=hv
  obtain ⟨a,cp,h3,hr⟩:=xE hw h1 h2
  refine ⟨a,_,cp,h3,aIq h _ fun hn=>?_⟩
  obtain ⟨_,a',c',ds,fps,e1,e2,_,h4⟩:=hr
  injection e1 with e1 _
  injection e1 with e1 _ e3
  subst e1 e3
  cases ow with
  | true =>
   simp only [if_true] at h4
   rcases h4 with ⟨hc,_⟩|⟨g,rfl,_⟩
   ·omega
   ·cases hn
  | false =>
   simp only [aT,if_false] at h4
   rcases h4.2.2 with h5|⟨ad,rfl,_⟩
   ·exact h5
   ·cases hn
 ·exact h.elim
theorem aEc (w:World) (e:TypeId) (s:ByteArray):mO w (Lib.bytesWorld w e s):=by
 refine ⟨?_,?_,?_,by rw [Lib.bytesWorld_size]; omega,fun k hk=>Lib.bytesWorld_at_old w e s k hk⟩<;>simp [Lib.bytesWorld,World.freeze,World.alloc,World.drew,-World.alloc_eq,-World.drew_eq]
theorem aEB:∀ bs:List UInt8,(eK bs).isL 1
 | []=>trivial
 | _ :: bs=>⟨rfl,aEB bs⟩
theorem aCi {w:World} {M:Nat->Prop}:∀ bs:List UInt8,(eK bs).rep w M (bs.map fun b=>.int .u8 (b.toNat:Int)) []
 | []=>⟨rfl,rfl⟩
 | _ :: bs=>⟨[_],_,[],[],rfl,rfl,⟨rfl,rfl⟩,aCi bs⟩
theorem aEI (w:World) (e:TypeId) (bs:List UInt8):jA (Lib.bytesWorld w e ⟨bs.toArray⟩) w.heap.size (grownCap w bs.length 0 e) (bs.map fun b=>.int .u8 (b.toNat:Int)):=by
 have hge:=grownCap_ge w bs.length 0 e
 have hbs:(⟨bs.toArray⟩:ByteArray).size=bs.length:=by simp [ByteArray.size]
 refine ⟨Lib.bytesCells w e ⟨bs.toArray⟩,e,⟨_,Lib.bytesWorld_at_new w e _,.inr (aB _)⟩,?_,?_⟩
 ·simp only [Lib.bytesCells,hbs,bJ,Array.size_map,Array.size_replicate]
  simp
  omega
 ·simp only [Lib.bytesCells,bV,bM,bAe]
  rw [List.take_left' (by simp)]
theorem aH0 (hr:Rel c s C a w) (hc:aPj c.P o.op=some mo) (h:gU c.G s mo K):o.wp c.P a w (aPv c a o K) (fun _ _ _=>False):=by
 obtain ⟨dst,op,ty,pos,after,guard⟩:=o
 simp only at hc
 have hw:=hr.wd
 have hl:=Loose.refl hw
 unfold aPj at hc
 split at hc
 case h_1 E x =>
  obtain ⟨p,hp,rfl⟩:=aI.1 hc
  simp only [gU] at h
  obtain ⟨y,o2,C2,kr,cs,fp,⟨hV,hK⟩,hv,hy,hl2⟩:=pP hw hl (j7 hr hp) h
  simp only [a6] at hl2
  have hpc:(a.eval x).cells.toList=cs:=by rw [hv]; exact y8 hV hy
  obtain ⟨C',h1,h2,h3⟩:=aPo hw hl2 (E:=E) hy hl2.lnodup (fun b hb=>hb) hpc
  exact jG (v:=.pointer (some ⟨w.heap.size,0,none⟩)) rfl ⟨_,_,C',_,hK,rfl,h3,h1,h2 _ _ hr.env⟩
 case h_2 t =>
  obtain ⟨z,hz,rfl⟩:=aI.1 hc
  obtain ⟨i,v,hi,hv,_,_,hrep⟩:=aDK hz
  obtain ⟨C',h1,h2,h3⟩:=aPo hw hl (E:=t) (hrep w (Ms c C)) aJ (fun b hb=>by cases hb) rfl
  refine jG (v:=.pointer (some ⟨w.heap.size,0,none⟩)) (w':=w.alloc (.cells v.cells t)) ?_ ⟨_,_,C',_,h,rfl,h3,h1,h2 _ _ hr.env⟩
  simp [execOp,Instr.alloc,zeroValue,typeInfo,hi,hv]
  rfl
 case h_3 t x v =>
  split at hc
  ·rename_i n p q hn hp hq
   injection hc with hc
   subst hc
   simp only [e7,aI] at hn
   obtain ⟨i,hi,hsz⟩:=hn
   simp only [gU] at h
   obtain ⟨y,o2,C2,kr,cs,fp,⟨hV,hys,hkr,hst⟩,hv,hy,hl2⟩:=pP hw hl (j7 hr hq) h
   simp only [a6] at hl2
   have hpc:(a.eval v).cells.toList=cs:=by rw [hv]; exact y8 hV hy
   have hks:∀ r∈kr,gQ r (pM s.e p)=false:=by
    intro r hr'
    have:=bAb.1 hkr r hr'
    simpa using this
   obtain ⟨o3,r,C',hK,g,off,cur,E,hxv,hcur,hfit,h1,h2⟩:=aHN hw hl2 (j7 hr hp) hks hy hl2.lnodup (fun b hb=>hb) hst
   have hcl:(a.eval v).cells.size=cs.length:=by rw [<- aH,hpc]
   have hrun:=run_store (P:=c.P) (t:=t) (v:=a.eval v) (off:=off) hi (by rw [hcl,dP _ _ _ hy,hys,hsz]) hcur (by rw [hcl]; exact hfit) (by rw [hpc]; exact qQ _ _ _ hy)
   rw [hpc,hcl] at hrun
   unfold Oper.wp
   have:(execOp a.eval { dst:=dst,op:=.store t x v,type:=ty,pos:=pos,after:=after,guard:=guard }).run c.P w=.ok .skip (w.setRow g (cur.toList.take off ++ cs ++ cur.toList.drop (off + cs.length)).toArray):=by
    simp only [execOp,hxv,aG,hrun]; rfl
   rw [this]
   exact ⟨.undef,_,C',Go.undef,hK,rfl,rfl,h1,h2 _ _ hr.env⟩
  ·cases hc
 case h_4 t len ps =>
  unfold aP5 at hc
  split at hc
  ·rename_i e qs hu hqs
   split at hc
   ·rename_i z hz
    split at hc
    ·rename_i hpos
     injection hc with hc
     subst hc
     obtain ⟨i,v,hi,hzv,hV,hzs,hrep⟩:=aDK hz
     have hvs:v.cells.size=z.size:=by rw [<- aH,dP _ _ _ (hrep w (Ms c C))]
     obtain ⟨hpl,hpr⟩:=aBc hr ps.toList qs hqs
     have hplaced:aBr (fun i=>some (i * z.size,z.size)) (kN (aP len z)):=by
      intro j u hu
      have hL:(kN (aP len z)).isL z.size:=(jX _).2 (fun x hx=>by rw [(bG.1 hx).2])
      obtain ⟨h1,h2,_⟩:=aAp _ j u hL hu
      rw [h1,h2]
     simp only [gU] at h
     obtain ⟨xs,o2,C2,kr,L',cells',fp',hK,hfill,hxr,hnd,hsub,hl2,hcs,hxlen,hxL⟩:=qD (place:=fun i=>some (i * z.size,z.size)) hw (nN s.e qs) _ _ _ _ _ _ _ (madeCells v.cells (len * v.cells.size)) [] hl hpl hpr hplaced (aAC (hrep w (Ms c C)) len) aJ (fun b hb=>by cases hb) h
     simp only [a6] at hl2
     have hxL:=hxL z.size ((jX _).2 (fun x hx=>by rw [(bG.1 hx).2]))
     have hxlen:xs.len=len:=by rw [hxlen,fM,aZ3]
     have hcsz:cells'.size=len * z.size:=by rw [hcs,size_madeCells,hvs]
     have hLlt:∀ b∈fp',b < w.heap.size:=fun b hb=>hw.lt b (hl2.lsub b (hsub b hb))
     have hrow:jA (w.alloc (.cells cells' e)) w.heap.size (len * z.size) cells'.toList:=⟨cells',e,jB.new w _ _,hcsz,bD⟩
     have hnew:=Loose.new hw hl2 (ob:=.val (.sl true z.size xs)) (oc:={ v:=.slice (some ⟨w.heap.size,0,none⟩) len len,blk:=0,fp:=w.heap.size :: fp' }) (kL w (.cells cells' e))
      (aF.2 ⟨fun hb=>by have:=hLlt _ hb; omega,hnd⟩)
      (fun b hb=>by
       rw [zN]
       rcases aE.1 hb with hb|hb
       ·exact ⟨.inr (by omega),by omega⟩
       ·exact ⟨.inl (hsub b hb),by have:=hLlt b hb; omega⟩)
      ⟨[.slice (some ⟨w.heap.size,0,none⟩) len len],⟨hxL,some ⟨w.heap.size,0,none⟩,len,_,fp',by rw [hxlen],by rw [hxlen]; exact aB _,eR (kL w _).size (fun b hb hm=>by
        rcases hm with hm|hm
        ·exact .inl hm
        ·have e:fR (C2 ++ [{ v:=Value.slice (some ⟨w.heap.size,0,none⟩) len len,blk:=0,fp:=w.heap.size :: fp' }])=fR C2 ++ (w.heap.size :: fp'):=by simp [fR]
         rw [e,aA,aE] at hm
         rcases hm with hm|hm|hm
         ·exact .inr (hl2.fps b hm).1
         ·omega
         ·exact .inr (hl2.lsub b (hsub b hm))) _ _ _ (fun b hb _=>(kL w _).block b hb) hxr,by simp only [if_true]; exact .inr ⟨_,rfl,⟨hrow,fun _=>m6.new w _ _⟩,rfl⟩⟩,rfl⟩
     refine jG (v:=.slice (some ⟨w.heap.size,0,none⟩) len len) (w':=w.alloc (.cells cells' e)) ?_ ⟨_,_,_,_,hK,rfl,⟨_,by rw [List.getElem?_append_right (by rw [hl2.len]; exact aB _),hl2.len,aM]; rfl,rfl⟩,hnew.1,hnew.2 _ _ hr.env⟩
     have hzz:i.size=z.size:=hzs.symm
     have hparts:(cB (fun (p:Nat×Operand)=>(p.1,a.eval p.2)) ps).toList=ps.toList.map fun p=>(p.1,a.eval p.2):=by simp
     have hrun:(Instr.buildSlice t len (cB (fun (p:Nat×Operand)=>(p.1,a.eval p.2)) ps)).run c.P w=.ok (.slice (some ⟨w.heap.size,0,none⟩) len len) (w.alloc (.cells cells' e)):=by
      by_cases h0:len=0
      ·subst h0
       have hfill0:Instr.fill (fun i=>some (i * z.size,z.size)) #[] (ps.toList.map fun p=>(p.1,a.eval p.2))=some cells':=by
        rw [<- hfill]; congr 1; simp [madeCells]
       rw [<- hparts] at hfill0
       simp only [Instr.buildSlice,aG,run_underlying hu,aN,sizeOf,typeInfo,b9,program]
       simp [bAi,hi,hzz,newRow,newObj]
       rw [<- bM,show cB (fun (_:Nat)=>(default:Value)) (Array.range 0)=#[] from by simp,hfill0]
       rfl
      ·refine run_buildSlice (P:=c.P) w t e len _ cells' i v hu hi hzv (by rw [hzz]; omega) (by rw [hzz]; intro h; rcases Nat.mul_eq_zero.1 h with h|h<;>omega) ?_
       rw [hparts,hzz]
       rw [hvs] at hfill
       rw [<- hvs] at hfill ⊢
       exact hfill
     simp only [execOp,aG]
     rw [hrun]
     rfl
    ·cases hc
   ·cases hc
  ·cases hc
 case h_5 t ps =>
  unfold aKS at hc
  split at hc
  ·rename_i fs qs zs hu hqs hz
   split at hc
   ·rename_i hpB
    injection hc with hc
    subst hc
    obtain ⟨i,v,hi,hzv,hV,hzs,hrep⟩:=aDK hz
    obtain ⟨hpl,hpr⟩:=aBc hr ps.toList qs hqs
    simp only [aK7,aY,beq_iff_eq,bAb,bAh] at hpB
    have hfield:∀ (j:Nat),j < fs.size->∃ u f,zs.nth j=some u/\fs[j]?=some f/\zs.pre j=f.offset/\e7 c.P f.type=some u.size:=by
     intro j hj
     have h1:=hpB.2 j hj
     split at h1
     ·rename_i u f h2 h3
      simp only [aY,beq_iff_eq] at h1
      exact ⟨u,f,h2,h3,h1.1,h1.2⟩
     ·cases h1
    have hplaces:∀ f∈fs.toList,∃ n,e7 c.P f.type=some n:=by
     intro f hf
     obtain ⟨j,hj⟩:=cH.1 hf
     have hlt:=c6 hj
     obtain ⟨u,f',h1,h2,_,h4⟩:=hfield j (by simpa using hlt)
     rw [<- Array.getElem?_toList,hj] at h2
     injection h2 with h2
     subst h2
     exact ⟨_,h4⟩
    have hplaced:aBr (fun j=>(fs.toList.map fun f=>(f.offset,(e7 c.P f.type).getD 0)).toArray[j]?) zs:=by
     intro j u hju
     have hlt:=aLA _ _ _ hju
     rw [hpB.1] at hlt
     obtain ⟨u',f,h1,h2,h3,h4⟩:=hfield j hlt
     rw [hju] at h1
     injection h1 with h1
     subst h1
     simp only [List.getElem?_toArray,List.getElem?_map,Array.getElem?_toList,h2,bT,h3,h4,Option.getD_some]
    simp only [gU] at h
    obtain ⟨xs,o2,C2,kr,L',cells',fp',hK,hfill,hxr,hnd,hsub,hl2,hcs,hxlen,_⟩:=qD hw (nN s.e qs) _ _ _ _ _ _ _ v.cells [] hl hpl hpr hplaced (hrep w (Ms c C)) aJ (fun b hb=>by cases hb) h
    simp only [a6] at hl2
    have hrun:(Instr.build t (cB (fun (p:Nat×Operand)=>(p.1,a.eval p.2)) ps)).run c.P w=.ok (.agg cells') w:=by
     have hparts:(cB (fun (p:Nat×Operand)=>(p.1,a.eval p.2)) ps).toList=ps.toList.map fun p=>(p.1,a.eval p.2):=by simp
     have hpm:(fs.mapM (fun f=>do pure (f.offset,<-sizeOf f.type):Field->Sem (Nat×Nat))).run c.P w=.ok (fs.toList.map fun f=>(f.offset,(e7 c.P f.type).getD 0)).toArray w:=by
      rw [Array.mapM_eq_mapM_toList,Sem.run_map,aDh w _ hplaces]
      rfl
     have hzr:(zeroValue t).run c.P w=.ok v w:=by simp [zeroValue,typeInfo,program,bAi,hi,hzv]
     simp only [Instr.build,aG,hzr,aN,run_underlying hu,hpm,hparts,hfill]
     rfl
    have hLlt:∀ b∈fp',b < w.heap.size:=fun b hb=>hw.lt b (hl2.lsub b (hsub b hb))
    split at hK
    ·rename_i hno
     have hf0:=nU _ _ _ hno hxr
     subst hf0
     have hupd:=hw.upd (o':=o2) (C':=C2) (X:=fun _=>False) (aZH (mO.refl w) _) (fun b h=>h.elim) hl2.len (fun r ob oc h1 h2=>by
      rcases hl2.obs r ob oc h1 h2 with ⟨a1,a2,_⟩|⟨a1,a2,_⟩
      ·exact .inl ⟨a1,a2,fun _ _ h=>h⟩
      ·subst a1; exact .inr a2) hl2.nodup (fun b hb=>⟨.inl (hl2.fps b hb).1,hw.lt b (hl2.fps b hb).1⟩) (fun q r v hq=>.inl (hl2.tag hq)) (fun q r v oc _ h=>hl2.val h)
     refine jG (v:=.agg cells') (w':=w) (by simp only [execOp,aG]; rw [hrun]; rfl) ⟨_,_,C2,_,hK,rfl,⟨cells'.toList,eR (aB _) (fun b hb hm=>?_) _ _ _ (fun _ _ _=>rfl) hxr,by simp [iU]⟩,hupd,?_⟩
     ·rcases hm with hm|hm
      ·exact .inl hm
      ·exact .inr (hl2.fps b hm).1
     ·refine hl2.envR (C':=C2) (X:=fun _=>False) (aZH (mO.refl w) _) (fun b h=>h.elim) (fun b hb=>⟨.inl (hl2.fps b hb).1,hw.lt b (hl2.fps b hb).1⟩) (fun j od hj=>⟨od,hj,rfl,rfl⟩) (fun _=>false) ?_ (fun t=>by rw [nG]; simp) hr.env
      intro q r od od' _ _ hk h1 h2 h3
      obtain ⟨od1,h4,_,_,h5⟩:=hl2.same r od h1
      have:=h5 hk
      subst this
      rw [h4] at h3
      injection h3 with h3
      subst h3
      exact ⟨h2,fun h=>h⟩
    ·have hnew:=Loose.new hw hl2 (ob:=.val (.st xs)) (oc:={ v:=.agg cells',blk:=0,fp:=fp' }) (mO.refl w) hnd (fun b hb=>⟨.inl (hsub b hb),hLlt b hb⟩)
      ⟨cells'.toList,eR (aB _) (fun b hb hm=>by
       rcases hm with hm|hm
       ·exact .inl hm
       ·have e:fR (C2 ++ [{ v:=Value.agg cells',blk:=0,fp:=fp' }])=fR C2 ++ fp':=by simp [fR]
        rw [e,aA] at hm
        rcases hm with hm|hm
        ·exact .inr (hl2.fps b hm).1
        ·exact .inr (hl2.lsub b (hsub b hm))) _ _ _ (fun _ _ _=>rfl) hxr,by simp [iU]⟩
     exact jG (v:=.agg cells') (w':=w) (by simp only [execOp,aG]; rw [hrun]; rfl) ⟨_,_,_,_,hK,rfl,⟨_,by rw [List.getElem?_append_right (by rw [hl2.len]; exact aB _),hl2.len,aM]; rfl,rfl⟩,hnew.1,hnew.2 _ _ hr.env⟩
   ·cases hc
  ·cases hc
 case h_6 t n m =>
  obtain ⟨px,rfl,hpx,hc⟩:=aMw hc
  unfold aS5 at hc
  ·· split at hc
     ·rename_i e hu
      split at hc
      ·rename_i z i hz hi
       injection hc with hc
       subst hc
       simp only [gU] at h
       split at h
       ·rename_i k m hm
        obtain ⟨⟨h0,hb,h63⟩,hK⟩:=h
        obtain ⟨i',v,hi',hzv,hV,hzs,hrep⟩:=aDK hz
        rw [hi] at hi'
        injection hi' with hi'
        subst hi'
        have hvs:v.cells.size=i.size:=by rw [<- aH,dP _ _ _ (hrep w (Ms c C)),hzs]
        have hn:=j7 hr hpx
        rw [hm] at hn
        have hn:=dO.1 hn
        have hrun:=run_make (P:=c.P) w t e i v hu hi hzv k k m m h0 (Int.le_refl _) hb h63
        have hL:(kN (aP m.toNat z)).isL i.size:=(jX _).2 (fun x hx=>by rw [(bG.1 hx).2,hzs])
        have hlen:(kN (aP m.toNat z)).len=m.toNat:=by rw [fM,aZ3]
        have hmr:=aAC (hrep w (Ms c C)) m.toNat
        rw [hvs] at hmr
        have hrow:jA (w.alloc (.cells (madeCells v.cells (m.toNat * i.size)) e)) w.heap.size (m.toNat * i.size) (madeCells v.cells (m.toNat * i.size)).toList:=⟨_,e,jB.new w _ _,size_madeCells _ _,bD⟩
        have hnew:=Loose.new hw hl (ob:=.val (.sl true i.size (kN (aP m.toNat z)))) (oc:={ v:=.slice (some ⟨w.heap.size,0,none⟩) m.toNat m.toNat,blk:=0,fp:=[w.heap.size] }) (kL w (.cells (madeCells v.cells (m.toNat * i.size)) e))
         (by simp) (fun b hb=>by rw [zN]; simp only [bB] at hb; exact ⟨.inr (by omega),by omega⟩)
         ⟨[.slice (some ⟨w.heap.size,0,none⟩) m.toNat m.toNat],⟨hL,some ⟨w.heap.size,0,none⟩,m.toNat,_,[],by rw [hlen],by rw [hlen]; exact aB _,eR (kL w _).size (fun b hb hm=>by
           rcases hm with hm|hm
           ·exact .inl hm
           ·have e:fR (C ++ [{ v:=Value.slice (some ⟨w.heap.size,0,none⟩) m.toNat m.toNat,blk:=0,fp:=[w.heap.size] }])=fR C ++ [w.heap.size]:=by simp [fR]
            rw [e,aA,bB] at hm
            rcases hm with hm|hm
            ·exact .inr hm
            ·omega) _ _ _ (fun b hb _=>(kL w _).block b hb) hmr,by simp only [if_true]; exact .inr ⟨_,rfl,⟨hrow,fun _=>m6.new w _ _⟩,rfl⟩⟩,rfl⟩
        refine jG (v:=.slice (some ⟨w.heap.size,0,none⟩) m.toNat m.toNat) (w':=w.alloc (.cells (madeCells v.cells (m.toNat * i.size)) e)) ?_ ⟨_,_,_,_,hK,rfl,⟨_,by rw [List.getElem?_append_right (by rw [hw.len]; exact aB _),hw.len,aM]; rfl,rfl⟩,hnew.1,hnew.2 _ _ hr.env⟩
        simp only [execOp,aG]
        rw [hn,hrun]
        rfl
       ·exact h.elim
      ·cases hc
     ·cases hc
 case h_7 xs ts =>
  unfold aK1 at hc
  split at hc
  ·rename_i t t' x y
   split at hc
   ·rename_i htt
    subst htt
    split at hc
    ·rename_i e p q hu hp hq
     split at hc
     ·rename_i i hi
      split at hc
      ·rename_i z hzv
       split at hc
       ·rename_i hzs
        injection hc with hc
        subst hc
        simp only [gU] at h
        have hx:=j7 hr hp
        have hy:=j7 hr hq
        have fin:∀ (o1:List Ob) (C1:List OC) (kr L:List Nat) (ys:D) (fy:List Nat),Loose s.o C o1 C1 kr L->(∀ r∈kr,gQ r (pM s.e p)=false)->Src w (Ms c C) i.size (a.eval y) ys fy->fy.Nodup->(∀ b∈fy,b∈L) ->
          tU i.size i.bytes o1 (pM s.e p) ys kr (fun sv o2 kr kk=>K sv ⟨wX kk (gN kr s.e),o2⟩)->Oper.wp c.P { dst:=dst,op:=.call { callee:=.builtin .append,args:=#[x,y],argTypes:=#[t,t] },type:=ty,pos:=pos,after:=after,guard:=guard } a w (aPv c a { dst:=dst,op:=.call { callee:=.builtin .append,args:=#[x,y],argTypes:=#[t,t] },type:=ty,pos:=pos,after:=after,guard:=guard } K) (fun _ _ _=>False):=by
         intro o1 C1 kr L ys fy hl1 hks hsrc hnd hsub h
         obtain ⟨sv,o2,kk,C',v',w',hK,hrun,h1,h2,h3⟩:=aKC (ty:=ty) hu hi hzv hzs hw hl1 hx hks hsrc hnd hsub h
         refine jG (v:=v') (w':=w') ?_ ⟨_,_,C',_,hK,rfl,h3,h1,h2 _ _ hr.env⟩
         simp only [execOp,resolve,aG,b9,aN,invoke,builtin,bAc,a8,aZ6]
         rw [hrun]; rfl
        unfold aHa at h
        split at h
        ·rename_i ow es' ys hE
         obtain ⟨rfl,h⟩:=h
         rw [hE] at hy
         obtain ⟨cs,h1,h2⟩:=hy
         obtain ⟨fy,h3,h4,h5⟩:=aD3 h1 h2
         have hf0:fy=[]:=by
          cases fy with
          | nil=>rfl
          | cons b _=>exact absurd (h4 b (by simp)) (by simp)
         subst hf0
         exact fin _ _ _ _ _ _ hl (fun r hr=>by cases hr) h3 aJ (fun b hb=>by cases hb) h
        ·rename_i hE
         rw [hE] at hy
         have hy:a.eval y=.slice none 0 0:=hy
         exact fin _ _ _ _ .nil [] hl (fun r hr=>by cases hr) ⟨trivial,none,0,[],hy,⟨rfl,rfl⟩,.inl rfl⟩ aJ (fun b hb=>by cases hb) h
        ·rename_i qq hE
         rw [hE] at hy
         obtain ⟨ys,h1,hne,h⟩:=h
         obtain ⟨oc,h2,hv⟩:=hy
         obtain ⟨cs,h3,h4⟩:=hw.obs qq _ oc h1 h2
         obtain ⟨fy,h5,h6,h7⟩:=aD3 h3 (hv.trans h4)
         have hocn:=(eE.1 hw.nodup).1 qq oc h2
         split at h
         ·rename_i hno
          obtain ⟨h8,aa,cc,ds,e1,e2,e3⟩:=h5
          have hf0:=nU _ _ _ hno e2
          subst hf0
          exact fin _ _ _ _ _ [] hl (fun r hr=>by cases hr) ⟨h8,aa,cc,ds,e1,e2,e3⟩ aJ (fun b hb=>by cases hb) h
         ·have hd:=hl.drop h1 h2
          simp only [a6] at hd
          refine fin _ _ [qq] _ _ fy hd (fun r hr=>?_) h5 (h7 hocn) h6 h
          simp only [bB] at hr
          subst hr
          have hE2:gQ r (pM s.e p)=true->False:=by
           intro hr2
           unfold tU at h
           split at h
           ·rename_i hX; rw [hX] at hr2; cases hr2
           ·rename_i hX; rw [hX] at hr2; cases hr2
           ·rename_i r' hX
            rw [hX] at hr2
            simp only [gQ,k0,beq_iff_eq] at hr2
            subst hr2
            exact hne hX
           ·exact h
          cases hb:gQ r (pM s.e p) with
          | false=>rfl
          | true=>exact (hE2 hb).elim
        ·exact h.elim
       ·cases hc
      ·cases hc
     ·cases hc
    ·cases hc
   ·cases hc
  ·cases hc
 case h_8 f xs ts =>
  unfold s9 at hc
  split at hc
  ·rename_i he
   split at hc
   ·rename_i ps hps
    injection hc with hc
    simp only [aT,if_false] at hc
    subst hc
    simp only [gU] at h
    obtain ⟨α,S,hS,h⟩:=h
    obtain ⟨u,C1,hr1⟩:=hS c C a w hr
    have h:=h u
    generalize S u=s1 at h hr1
    obtain ⟨hal,hav⟩:=aDM hr1 xs.toList ps hps
    refine aLe rfl he ?_
    rcases h with ⟨ds,R,h1,h2,h3⟩|⟨bx,r,x,ss,ds,R,h0,hor,h1,hd,h2,h3⟩|(h|⟨ds,L,R,h1,h2,h3,h4⟩|⟨r,x,ss,ds,L,R,h0,hor,h1,hd,hL,h2,h3⟩)|⟨r,x,ss,ds,R,h0,hor,h1,hd,h2,h3⟩
    ·refine (aJJ hr1.wd h1 hal hav h2 (fun rs hR=>(h3 rs hR).1)).mono ?_
     rintro e w' ⟨rs,v,C',rfl,hR,h4,h5,h6⟩
     exact ⟨v,rfl,_,_,C',v,(h3 rs hR).2,rfl,h6,h4,h5 _ _ hr1.env⟩
    ·rw [h0] at hal hav
     generalize xs.toList.map a.eval=us at hal hav
     match us,hal with
     | v0 :: vs,hal =>
      refine (aH9 hr1.wd hor (hav 0 _ _ rfl rfl) h1 hd (by simpa using hal) (fun i s v hs hv=>hav (i + 1) s v (by simpa using hs) (by simpa using hv)) h2).mono ?_
      rintro e w' ⟨x',rs,v,C',rfl,hR,h4,h5,h6⟩
      exact ⟨v,rfl,_,_,C',v,h3 x' rs hR,rfl,h6,h4,h5 _ _ _ hr1.env (fun t=>lK (gP r) rfl _ t)⟩
    ·obtain ⟨ds,⟨R,h2,h3⟩,h4⟩:=sE hr1.wd _ _ _ h hal hav
     refine (aBq hr1.wd (.inr ⟨fun rs hR=>(h3 rs hR).1,h4⟩) h2).mono ?_
     rintro e w' ⟨rs,v,C',rfl,hR,h4,h5,h6⟩
     exact ⟨v,rfl,_,_,C',v,(h3 rs hR).2,rfl,h6,h4,h5 _ _ hr1.env⟩
    ·refine (aKf hr1.wd (aGb hr1.wd L h2) (tL _ _ _ hr1.wd h1 hal hav) (fun rs hR=>(h4 rs hR).1) h3).mono ?_
     rintro e w' ⟨rs,v,C',rfl,hR,h4',h5,h6⟩
     exact ⟨v,rfl,_,_,C',v,(h4 rs hR).2,rfl,h6,h4',h5 _ _ hr1.env⟩
    ·rw [h0] at hal hav
     generalize xs.toList.map a.eval=us at hal hav
     match us,hal with
     | v0 :: vs,hal =>
      refine (aGK hr1.wd hor (hav 0 _ _ rfl rfl) h1 hd hL (by simpa using hal) (fun i s v hs hv=>hav (i + 1) s v (by simpa using hs) (by simpa using hv)) h2 (fun x' rs hR=>(h3 x' rs hR).1)).mono ?_
      rintro e w' ⟨x',rs,v,C',rfl,hR,h4,h5,h6⟩
      exact ⟨v,rfl,_,_,C',v,(h3 x' rs hR).2,rfl,h6,h4,h5 _ _ _ hr1.env (fun t=>lK (gP r) rfl _ t)⟩
    ·rw [h0] at hal hav
     generalize xs.toList.map a.eval=us at hal hav
     match us,hal with
     | v0 :: vs,hal =>
      refine (aGS hr1.wd hor (hav 0 _ _ rfl rfl) h1 hd (by simpa using hal) (fun i s v hs hv=>hav (i + 1) s v (by simpa using hs) (by simpa using hv)) h2).mono ?_
      rintro e w' ⟨x',rs,v,C',rfl,hR,h4,h5,h6⟩
      exact ⟨v,rfl,_,_,C',v,h3 x' rs hR,rfl,h6,h4,h5 _ _ _ hr1.env (fun t=>lK (gP r) rfl _ t)⟩
   ·cases hc
  ·cases hc
 case h_9 t xs ts =>
  obtain ⟨ps,hps,rfl⟩:=aI.1 hc
  simp only [gU] at h
  split at h
  ·rename_i g ys hE
   obtain ⟨⟨hen,hcap⟩,ds,R,h1,h2,h3⟩:=h
   obtain ⟨hal,hav⟩:=aDM hr xs.toList ps hps
   have hf:=hr.env t
   have hE':look s.e t=.d (.clo g ys):=hE
   rw [hE'] at hf
   obtain ⟨cs,⟨_,es,rfl,hys⟩,hv0⟩:=hf
   have hv0:a.tmps.getD t Go.undef=.func (.func g) #[] es.toArray:=hv0
   refine aJi rfl hv0 hen ?_
   refine (aH2 hr.wd h1 hal hav hys hcap h2 (fun rs hR=>(h3 rs hR).1)).mono ?_
   rintro e w' ⟨rs,v,C',rfl,hR,h4,h5,h6⟩
   exact ⟨v,rfl,_,_,C',v,(h3 rs hR).2,rfl,h6,h4,h5 _ _ hr.env⟩
  ·exact h.elim
 case h_10 xs ts =>
  unfold aLF at hc
  split at hc
  ·rename_i t x
   split at hc
   ·rename_i e p hu hp
    split at hc
    ·rename_i z i hz hi
     injection hc with hc
     subst hc
     simp only [gU] at h
     split at h
     ·rename_i r es' lo hE
      obtain ⟨rfl,xs,h1,hK⟩:=h
      obtain ⟨i',v,hi',hzv,hV,hzs,hrep⟩:=aDK hz
      rw [hi] at hi'
      injection hi' with hi'
      subst hi'
      have hvs:v.cells.size=i.size:=by rw [<- aH,dP _ _ _ (hrep w (Ms c C)),hzs]
      have hx:=j7 hr hp
      rw [hE] at hx
      obtain ⟨C',g,cur,E,n,cp,hxv,hn,hcur,hfit,k1,k2⟩:=aNd hw hx h1 hrep hzs
      have hrun:=aHf (P:=c.P) (ty:=ty) hu hi hzv hn hcur (by rw [hvs]; exact hfit) (qQ _ _ _ (hrep w (Ms c C))) (cp:=cp)
      rw [hvs] at hrun
      refine jG (v:=.tuple #[]) ?_ ⟨_,_,C',_,hK,rfl,trivial,k1,k2 _ _ hr.env⟩
      simp only [execOp,resolve,aG,b9,aN,invoke,builtin,bAc,a8,aZ6,hxv]
      rw [hrun]; rfl
     ·exact h.elim
    ·cases hc
   ·cases hc
  ·cases hc
 case h_11 t x hi =>
  unfold aKT at hc
  split at hc
  ·rename_i e p q hu hp hq
   obtain ⟨n,hn,hc⟩:=aI.1 hc
   subst hc
   obtain ⟨inf,hinf,rfl⟩:=aI.1 hn
   simp only [gU,qI] at h
   have hx:=j7 hr hp
   have hh:=j7 hr hq
   have shared:∀ X:SV,dX w (Ms c C) C X (a.eval x)->lW s.o inf.size X none (some (pM s.e q)) (fun sv=>K sv s)->Oper.wp c.P { dst:=dst,op:=.slice t x none (some hi) none,type:=ty,pos:=pos,after:=after,guard:=guard } a w (aPv c a { dst:=dst,op:=.slice t x none (some hi) none,type:=ty,pos:=pos,after:=after,guard:=guard } K) (fun _ _ _=>False):=by
    intro X hX h
    obtain ⟨sv,hK,hs⟩:=sS (c:=c) (C:=C) hu hinf h
    obtain ⟨v,hv,hrl⟩:=hs w _ none (some (a.eval hi)) hw hX (fun z hz=>by cases hz) (fun _=>rfl) (fun z hz=>by injection hz with hz; subst hz; exact ⟨_,rfl,hh⟩) (fun hz=>by cases hz)
    refine jG (v:=v) (w':=w) ?_ ⟨_,_,C,_,hK,rfl,hrl,hw,hr.env⟩
    simp only [execOp,aG,cC,bT]
    rw [hv]; rfl
   split at h
   ·rename_i r hE
    rw [hE] at hx
    obtain ⟨ow,xs,h1,h⟩:=h
    unfold r9 at h
    split at h
    ·exact shared (.own r) hx ⟨false,xs,h1,h⟩
    ·rename_i k b hB
     rw [hB] at hh
     obtain ⟨⟨h0,hb⟩,hK⟩:=h
     obtain ⟨oc,h2,hv⟩:=hx
     obtain ⟨ad,cp,hov,hrep⟩:=xE hw h1 h2
     obtain ⟨fp',hcut,_,hsub,hnd⟩:=aRB hrep (b:=b.toNat) (by omega)
     have hle:xs.len<=cp:=by
      obtain ⟨_,_,_,_,_,e1,e2,_⟩:=hrep
      injection e1 with e1 _
      injection e1 with _ _ ec
      subst ec
      exact e2
     obtain ⟨k1,k2⟩:=aHk hw h1 h2 (by rw [hov]; rfl) hcut hsub (hnd ((eE.1 hw.nodup).1 r oc h2))
     have hbnd:(Instr.sliceBounds true xs.len cp none (some (.int k b)) none).run c.P w=.ok (0,b.toNat,cp) w:=by
      have:b<=cp:=by omega
      simp [Instr.sliceBounds,Instr.sliceBound,asIntOf,h0,this]
     have hrun:=kI (ad:=ad) hu hinf hbnd
     have hadd:ad.map (·.add (0 * inf.size))=ad:=by cases ad<;>simp [Addr.add]
     rw [hadd,ite_self] at hrun
     refine jG (v:=.slice ad b.toNat cp) (w':=w) ?_ ⟨_,_,_,_,hK oc.v,rfl,⟨{ v:=iU (.sl true inf.size (xs.takeD b.toNat)) [.slice ad b.toNat cp],blk:=0,fp:=fp' },?_,rfl⟩,k1,k2 _ _ hr.env⟩
     ·simp only [execOp,aG,cC,bT,hv,dO.1 hh,hov]
      rw [hrun]; rfl
     ·rw [List.getElem?_append_right (by simp [hw.len]),cA,hw.len,aM]; rfl
    ·exact h.elim
   ·exact shared _ hx h
  ·cases hc
 case h_12 t x yt =>
  unfold aA6 at hc
  split at hc
  ·rename_i e p hu hp
   injection hc with hc
   subst hc
   simp only [gU] at h
   obtain ⟨b,n,cp,hv,hK⟩:=aH4 hw (j7 hr hp) h
   refine jG (v:=.bool (b.isNone)) (w':=w) ?_ ⟨_,_,C,_,hK,rfl,eN.2 rfl,hw,hr.env⟩
   have hrun:=aIV (P:=c.P) hu w b n cp
   have hg:(eqGuard .eql t x (.const (.slice none 0 0)) (.slice b n cp) (.slice none 0 0)).run c.P w=.ok () w:=rfl
   have hb:binOp .eql t (.slice b n cp) (.slice none 0 0)=(do pure (.bool (<- Op.equal t (.slice b n cp) (.slice none 0 0)))):=rfl
   simp only [execOp,hv,aG]
   show a7 (a7 ((eqGuard .eql t x (.const (.slice none 0 0)) (.slice b n cp) (.slice none 0 0)).run c.P w) fun _ w=>(binOp .eql t (.slice b n cp) (.slice none 0 0)).run c.P w) _=_
   rw [hg,aN,hb,aG,hrun]
   rfl
  ·cases hc
 case h_13 t x yt =>
  unfold aA6 at hc
  split at hc
  ·rename_i e p hu hp
   injection hc with hc
   subst hc
   simp only [gU] at h
   obtain ⟨b,n,cp,hv,hK⟩:=aH4 hw (j7 hr hp) h
   refine jG (v:=.bool (!b.isNone)) (w':=w) ?_ ⟨_,_,C,_,hK,rfl,eN.2 rfl,hw,hr.env⟩
   have hrun:=aIV (P:=c.P) hu w b n cp
   have hg:(eqGuard .neq t x (.const (.slice none 0 0)) (.slice b n cp) (.slice none 0 0)).run c.P w=.ok () w:=rfl
   have hb:binOp .neq t (.slice b n cp) (.slice none 0 0)=(do pure (.bool (!(<- Op.equal t (.slice b n cp) (.slice none 0 0))))):=rfl
   simp only [execOp,hv,aG]
   show a7 (a7 ((eqGuard .neq t x (.const (.slice none 0 0)) (.slice b n cp) (.slice none 0 0)).run c.P w) fun _ w=>(binOp .neq t (.slice b n cp) (.slice none 0 0)).run c.P w) _=_
   rw [hg,aN,hb,aG,hrun]
   rfl
  ·cases hc
 case h_14 src dst' x =>
  unfold aLJ at hc
  split at hc
  ·rename_i e p hu1 hu2 hp
   split at hc
   ·rename_i he
    injection hc with hc
    subst hc
    simp only [gU] at h
    split at h
    ·rename_i bs hE
     have hv:=j7 hr hp
     rw [hE] at hv
     have hv:=fA.1 hv
     have hrun:=Lib.run_convert_string_bytes (P:=c.P) w src dst' e ⟨bs.toArray⟩ hu1 hu2 he
     have hex:=aEc w e ⟨bs.toArray⟩
     have hsz:=Lib.bytesWorld_size w e ⟨bs.toArray⟩
     have hge:=grownCap_ge w (⟨bs.toArray⟩:ByteArray).size 0 e
     have hbs:(⟨bs.toArray⟩:ByteArray).size=bs.length:=by simp [ByteArray.size]
     have hrow:=aEI w e bs
     rw [hbs] at hrun hge
     have hL:=aEB bs
     have hnew:=Loose.new hw hl (w':=Lib.bytesWorld w e ⟨bs.toArray⟩) (ob:=.val (.sl true 1 (eK bs))) (oc:={ v:=.slice (some ⟨w.heap.size,0,none⟩) bs.length (grownCap w bs.length 0 e),blk:=0,fp:=[w.heap.size] }) hex
      (by simp) (fun b hb=>by rw [hsz]; simp only [bB] at hb; exact ⟨.inr (by omega),by omega⟩)
      ⟨[.slice (some ⟨w.heap.size,0,none⟩) bs.length (grownCap w bs.length 0 e)],⟨hL,some ⟨w.heap.size,0,none⟩,grownCap w bs.length 0 e,bs.map (fun b=>.int .u8 (b.toNat:Int)),[],by rw [kY],by rw [kY]; exact hge,aCi bs,by
       simp only [if_true]; exact .inr ⟨_,rfl,⟨by rw [Nat.mul_one]; exact hrow,fun h=>absurd rfl h⟩,rfl⟩⟩,rfl⟩
     refine jG (v:=.slice (some ⟨w.heap.size,0,none⟩) bs.length (grownCap w bs.length 0 e)) (w':=Lib.bytesWorld w e ⟨bs.toArray⟩) ?_ ⟨_,_,_,_,h,rfl,⟨_,by rw [List.getElem?_append_right (by rw [hw.len]; exact aB _),hw.len,aM]; rfl,rfl⟩,hnew.1,hnew.2 _ _ hr.env⟩
     simp only [execOp,aG]
     rw [hv,hrun]
     rfl
    ·exact h.elim
   ·cases hc
  ·cases hc
 case h_15 t =>
  injection hc with hc
  subst hc
  have h1:=aTj hw
  refine jG (v:=.map (some w.heap.size)) (w':=w.alloc (.map #[] 0)) ?_ ⟨_,_,_,_,h,rfl,⟨_,by rw [List.getElem?_append_right (by rw [hw.len]; exact aB _),hw.len,aM]; rfl,rfl⟩,h1.1,h1.2 _ _ hr.env⟩
  simp only [execOp,aG,cC]
  rw [show (Instr.makeMap t none).run c.P w=.ok (.map (some w.heap.size)) (w.alloc (.map #[] 0)) from rfl]
  rfl
 case h_16 t m k v =>
  unfold aKV at hc
  split at hc
  ·rename_i e pm pk pv hs hm hk hv
   injection hc with hc
   subst hc
   obtain ⟨kt,ht,hkt⟩:=aFL hs
   simp only [gU,vG] at h
   split at h
   ·rename_i r b n e1 e2 e3
    obtain ⟨kvs,h1,h2,h3⟩:=h
    have v1:=j7 hr hm
    have v2:=j7 hr hk
    have v3:=j7 hr hv
    rw [e1] at v1
    rw [e2] at v2
    rw [e3] at v3
    obtain ⟨oc,h4,h5⟩:=v1
    obtain ⟨es,cl,h6,h7,h8,h9⟩:=hw.obs r _ oc h1 h4
    have hin:=aSU hw h1 h4 h6 h7 h8 h9 b n
    unfold Oper.wp
    have hrun:(execOp a.eval { dst:=dst,op:=.insert t m k v,type:=ty,pos:=pos,after:=after,guard:=guard }).run c.P w=.ok .skip { w with heap:=w.heap.setIfInBounds oc.blk (.map (es.push { key:=.string ⟨b.toArray⟩,val:=.int .i64 n,born:=cl }) (cl + 1)) }:=by
     simp only [execOp,aG]
     rw [h5,h8,fA.1 v2,dO.1 v3,aKJ ht hkt h6 h7 b n h2]
     rfl
    rw [hrun]
    exact ⟨.undef,_,C,Go.undef,h3,rfl,rfl,hin.1,hin.2 _ _ hr.env⟩
   ·exact h.elim
  ·cases hc
 case h_17 t m k =>
  unfold aLI at hc
  split at hc
  ·rename_i e pm pk hs hm hk
   split at hc
   ·rename_i i hi
    split at hc
    ·rename_i hz
     injection hc with hc
     subst hc
     obtain ⟨kt,ht,hkt⟩:=aFL hs
     simp only [gU,uY] at h
     split at h
     ·rename_i r b e1 e2
      obtain ⟨kvs,h1,h3⟩:=h
      have v1:=j7 hr hm
      have v2:=j7 hr hk
      rw [e1] at v1
      rw [e2] at v2
      obtain ⟨oc,h4,h5⟩:=v1
      obtain ⟨es,cl,h6,h7,h8,h9⟩:=hw.obs r _ oc h1 h4
      refine jG (v:=.tuple #[.int .i64 ((lkp kvs b).getD 0),.bool (lkp kvs b).isSome]) (w':=w) ?_ ⟨_,_,C,_,h3,rfl,⟨[_,_],rfl,rfl,fun i s u h1 h2=>?_⟩,hw,hr.env⟩
      ·simp only [execOp,aG]
       rw [h5,h8,fA.1 v2,aJK ht hkt hi (aOW hz) h6 h7 b]
       rfl
      ·match i,h1,h2 with
       | 0,h1,h2 =>
        simp only [List.getElem?_cons_zero,Option.some.injEq] at h1 h2
        subst h1 h2
        exact (dO (C:=C)).2 rfl
       | 1,h1,h2 =>
        simp only [List.getElem?_cons_succ,List.getElem?_cons_zero,Option.some.injEq] at h1 h2
        subst h1 h2
        exact (eN (C:=C)).2 rfl
       | i + 2,h1,h2=>simp at h1
     ·exact h.elim
    ·cases hc
   ·cases hc
  ·cases hc
 case h_18=>cases hc
end
end Go.Pe
