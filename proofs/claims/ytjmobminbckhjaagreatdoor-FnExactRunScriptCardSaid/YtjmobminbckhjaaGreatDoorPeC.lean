/-
 A layer for walks of Go functions aDj their compact code (part C): data and where they lie,contracts,the operations,the walk of code. Own work,the same in every claim of this set.
-/
import Derived.Test.YtjmobminbckhjaaGreatDoorPeB
import Derived.OrdersHeld
import Derived.Deep.LoopGhost
import Derived.KernelRfl
open Array renaming getD_eq_getD_getElem?->aG, replicate->aI, size_replicate->aT, size_append->aZ
open Bool renaming and_eq_true->aD, false_eq_true->aE, or_eq_true->bF, true_and->bK
open Iff renaming rfl->aJ
open List renaming mem_cons->aF, mem_cons_of_mem->aL, mem_append->aM, contains_iff_mem->aO, mem_of_getElem?->aP, append_assoc->aR, map_toArray->aS, nil_append->aU, mapM_cons->aV, map_cons->aW, all_cons->aX, nodup_append->aY, size_toArray->a6, map_nil->a7, any_eq_true->a8, not_mem_nil->bA, length_mapIdx->bC, all_eq_true->bD, nodup_cons->bG, nodup_nil->bH
open Nat renaming le_refl->aN, le_of_ble_eq_true->aQ, ble->bJ, sub_zero->bL, zero_le->bM
open Option renaming map_eq_some_iff->aA, map_some->aK, bind_eq_some_iff->bB, map_none->bE
open Go.Result renaming andThen_ok->aC
open Go.Sem renaming run_bind->aB, run_pure->aH
namespace Go.Pe
open Go Go.RowKit
def aER (ops:Array Oper):Option (Nat×Bool)->Option (Option (Nat×Bool))
 | none=>some none
 | some (j,b)=>((ops[j]?).bind (·.dst)).map fun t=>some (t,b)
def aUQ (n:Nat×Nat):Option Nat->Bool
 | none=>true
 | some t=>decide (n.1<=t/\t < n.2)
def pN (P:Program) (n:Nat×Nat) (draw:Bool) (ops:Array Oper) (o:Oper):Option MOp :=
 if aUQ n o.dst then
  match aER ops o.guard with
  | none=>none
  | some g =>
   if draw then (wF P true o.op).map fun mo=>⟨o.dst,g,false,mo⟩
   else match aMs P o.op with
    | some mo=>some ⟨o.dst,g,true,mo⟩
    | none=>(wF P true o.op).map fun mo=>⟨o.dst,g,false,mo⟩
 else none
def nA (P:Program) (n:Nat×Nat) (draw:Bool) (ops:Array Oper):List Oper->Option (List MOp)
 | []=>some []
 | o :: os=>match pN P n draw ops o,nA P n draw ops os with
  | some m,some ms=>some (m :: ms)
  | _,_=>none
def oL (P:PG) (s:St) (eff:Bool) (mo:MO) (K:SV->St->Prop):Prop :=
 match eff with
 | true=>fZ P s mo K
 | false=>eZ P s.o (look s.e) mo fun sv=>K sv s
def fI (P:PG):List MOp->St->(St->Prop)->Prop
 | [],s,K=>K s
 | o :: os,s,K =>
  match o.g with
  | none=>oL P s o.eff o.op fun sv s'=>fI P os ⟨lO s'.e o.dst sv,s'.o⟩ K
  | some (t,want)=>match look s.e t with
   | .d (.bool b)=>(b=want->oL P s o.eff o.op fun sv s'=>fI P os ⟨lO s'.e o.dst sv,s'.o⟩ K)/\(b=!want->fI P os ⟨lO s.e o.dst .undef,s.o⟩ K)
   | .undef=>fI P os ⟨lO s.e o.dst .undef,s.o⟩ K
   | _=>False
section
variable {c : Ctx} {C : List OC} {ops : Array Oper}
theorem aEy (e:i8) (dst:Option Nat) (s:SV):sL (look e) dst s=look (lO e dst s):=by
 funext t
 rw [aC0]
 cases dst with
 | none=>rfl
 | some d=>simp only [sL,Option.some.injEq]
theorem nL {draw:Bool} {o:Oper} {m:MOp} (h:pN c.P c.nn draw ops o=some m):m.dst=o.dst/\aER ops o.guard=some m.g/\∀ d,o.dst=some d->c.lo<=d/\d < c.n:=by
 unfold pN at h
 split at h
 ·rename_i hd
  have hd':∀ d,o.dst=some d->c.lo<=d/\d < c.n:=by
   intro d hd2; rw [hd2] at hd; exact of_decide_eq_true hd
  split at h
  ·cases h
  ·rename_i g hg
   split at h
   ·obtain ⟨mo,_,rfl⟩:=aA.1 h; exact ⟨rfl,hg,hd'⟩
   ·split at h
    ·injection h with h; subst h; exact ⟨rfl,hg,hd'⟩
    ·obtain ⟨mo,_,rfl⟩:=aA.1 h; exact ⟨rfl,hg,hd'⟩
 ·cases h
def aAQ (g:Option (Nat×Bool)) (E:Nat->SV):Option Bool :=
 match g with
 | none=>some true
 | some (t,want)=>match E t with
  | .d (.bool b)=>some (b == want)
  | .undef=>some false
  | _=>none
theorem uW {o:Oper} {g:Option (Nat×Bool)} {E:Nat->SV} (h:aER ops o.guard=some g):pT ops o E=aAQ g E:=by
 unfold pT
 cases hg:o.guard with
 | none=>rw [hg] at h; injection h with h; subst h; rfl
 | some p =>
  obtain ⟨j,b⟩:=p
  rw [hg] at h
  simp only [aER,aA] at h
  obtain ⟨t,ht,rfl⟩:=h
  simp only [ht,aAQ]
  cases E t with
  | d x=>cases x<;>rfl
  | _=>rfl
theorem qV:∀ (os:List Oper) (ms:List MOp) (s:St) (K:St->Prop),nA c.P c.nn true ops os=some ms->fI c.G ms s K ->
  aBZ c s.o C ops (fun E=>∃ e',K ⟨e',s.o⟩/\E=look e') os (look s.e)
 | [],ms,s,K,h,hx=>by
  injection h with h
  subst h
  exact ⟨s.e,hx,rfl⟩
 | o :: os,ms,s,K,h,hx=>by
  unfold nA at h
  split at h
  ·rename_i m ms' h1 h2
   injection h with h
   subst h
   obtain ⟨hd,hg,_⟩:=nL h1
   have heff:m.eff=false/\wF c.P true o.op=some m.op:=by
    unfold pN at h1
    split at h1
    ·split at h1
     ·cases h1
     ·simp only [if_true] at h1
      obtain ⟨mo,hmo,rfl⟩:=aA.1 h1
      exact ⟨rfl,hmo⟩
    ·cases h1
   have hw:=uW (E:=look s.e) hg
   have yes:pT ops o (look s.e)=some true->(oL c.G s m.eff m.op fun sv s'=>fI c.G ms' ⟨lO s'.e m.dst sv,s'.o⟩ K) ->
     ∃ s_1,YS c s.o C ops o (look s.e) s_1/\aBZ c s.o C ops (fun E=>∃ e',K ⟨e',s.o⟩/\E=look e') os (sL (look s.e) o.dst s_1):=by
    intro hwt hs
    rw [heff.1] at hs
    simp only [oL] at hs
    obtain ⟨sv,hK,hy⟩:=aAP (c:=c) (C:=C) heff.2 hs
    refine ⟨sv,.inl ⟨hwt,hy⟩,?_⟩
    rw [aEy,<-hd]
    exact qV os ms' ⟨lO s.e m.dst sv,s.o⟩ K h2 hK
   have no:pT ops o (look s.e)=some false->fI c.G ms' ⟨lO s.e m.dst .undef,s.o⟩ K ->
     ∃ s_1,YS c s.o C ops o (look s.e) s_1/\aBZ c s.o C ops (fun E=>∃ e',K ⟨e',s.o⟩/\E=look e') os (sL (look s.e) o.dst s_1):=by
    intro hwt hs
    refine ⟨.undef,.inr ⟨hwt,rfl⟩,?_⟩
    rw [aEy,<-hd]
    exact qV os ms' ⟨lO s.e m.dst .undef,s.o⟩ K h2 hs
   unfold fI at hx
   show ∃ s_1,YS c s.o C ops o (look s.e) s_1/\_
   split at hx
   ·rename_i hgn
    rw [hgn] at hw
    simp only [aAQ] at hw
    exact yes hw hx
   ·rename_i t want hgs
    rw [hgs] at hw
    simp only [aAQ] at hw
    split at hx
    ·rename_i b hb
     rw [hb] at hw
     simp only [] at hw
     by_cases e:b=want
     ·exact yes (by rw [hw,e]; simp) (hx.1 e)
     ·have e':b=!want:=by cases b<;>cases want<;>simp_all
      exact no (by rw [hw,e']; cases want<;>rfl) (hx.2 e')
    ·rename_i hb
     rw [hb] at hw
     exact no hw hx
    ·exact hx.elim
  ·cases h
theorem Rel.done {s st:St} {C':List OC} {a:Act} {w w':World} {o:Oper} {sv:SV} {v:Value} (h:Rel c s C a w) (hd:∀ d,o.dst=some d->c.lo<=d/\d < c.n) (hv:dN w' (Ms c C') C' sv v) (hw:RelW c st.o C' w') (he:gA w' c C' st.e a) :
  Rel c ⟨lO st.e o.dst sv,st.o⟩ C' (a.put o.dst v) w' where
 tmps:=by rw [aCC]; exact h.tmps
 defers:=by rw [wW]; exact h.defers
 env:=fun t=>by
  rw [aC0,yB _ _ _ _ (by rw [h.tmps]; exact fun d e=>(hd d e).2)]
  by_cases e:o.dst=some t
  ·simp only [e,if_true]; exact hv
  ·simp only [e,if_false]; exact he t
 wd:=hw
 fix:=aFw h.tmps hd h.fix
theorem Rel.relE {s:St} {a:Act} {w:World} (h:Rel c s C a w):RelE c s.o C (look s.e) a w:=⟨h.tmps,h.defers,h.env,h.wd,h.fix⟩
theorem kV {Q:Exit->Act->World->Prop} {K:St->Prop} (hQ:∀ s C a w,Rel c s C a w->K s->Q .normal a w):∀ (os:List Oper) (ms:List MOp) (s:St) (C:List OC) (a:Act) (w:World),nA c.P c.nn false ops os=some ms->Rel c s C a w->fI c.G ms s K ->
  wpList c.P ops Q os a w
 | [],ms,s,C,a,w,h,hr,hx=>by
  injection h with h
  subst h
  exact hQ _ _ _ _ hr hx
 | o :: os,ms,s,C,a,w,h,hr,hx=>by
  unfold nA at h
  split at h
  ·rename_i m ms' h1 h2
   injection h with h
   subst h
   obtain ⟨hd,hg,hdn⟩:=nL h1
   have hw:=uW (E:=look s.e) hg
   have yes:pT ops o (look s.e)=some true->(oL c.G s m.eff m.op fun sv s'=>fI c.G ms' ⟨lO s'.e m.dst sv,s'.o⟩ K)->wpList c.P ops Q (o :: os) a w:=by
    intro hwt hs
    have hwm:=lE hr.relE hwt
    simp only [wpList,hwm,if_true]
    left
    have goOn:∀ (R:Exit->Act->World->Prop),o.wp c.P a w (fun a' w'=>∃ s' C',fI c.G ms' s' K/\Rel c s' C' a' w') (fun _ _ _=>False)->o.wp c.P a w (wpList c.P ops Q os) R:=by
     intro R h3
     unfold Oper.wp at h3 ⊢
     generalize (execOp a.eval o).run c.P w=r at *
     have fin:∀ a' w',(∃ s' C',fI c.G ms' s' K/\Rel c s' C' a' w')->wpList c.P ops Q os a' w':=by
      rintro a' w' ⟨s',C',h4,h5⟩
      exact kV hQ os ms' s' C' a' w' h2 h5 h4
     cases r with
     | ok n w' =>
      cases n<;>simp only [Oper.upon] at h3 ⊢<;>first
       | exact fin _ _ h3
       | exact h3.elim
       | skip
      ·exact h3.mono fun e w'' he=>by
        cases e with
        | returned v=>exact fin _ _ he
        | panicked ch=>exact he.elim
        | outgrown=>obtain ⟨_,_,he⟩:=he; exact he.elim
      ·exact h3.mono fun v w'' he=>fin _ _ he
     | halt x w' =>
      cases x<;>simp only [Oper.upon] at h3<;>exact h3.elim
    apply goOn
    unfold pN at h1
    split at h1
    ·split at h1
     ·cases h1
     ·simp only [aE,if_false] at h1
      split at h1
      ·rename_i mo hmo
       injection h1 with h1
       subst h1
       simp only [oL] at hs
       refine Oper.wp_mono ?_ (aFS hr hmo hs)
       rintro a' w' ⟨sv,st,C',v,hK,rfl,hv,hw',he⟩
       exact ⟨_,C',hK,hr.done hdn hv hw' he⟩
      ·obtain ⟨mo,hmo,rfl⟩:=aA.1 h1
       simp only [oL] at hs
       obtain ⟨sv,hK,hy⟩:=aAP (c:=c) (C:=C) hmo hs
       refine Oper.wp_mono ?_ (hy a w hr.wd (fun t _=>hr.env t))
       rintro a' w' ⟨v,rfl,hv,hx2⟩
       exact ⟨_,C,hK,hr.put hx2 hdn hv⟩
    ·cases h1
   have no:pT ops o (look s.e)=some false->fI c.G ms' ⟨lO s.e m.dst .undef,s.o⟩ K->wpList c.P ops Q (o :: os) a w:=by
    intro hwt hs
    have hwm:=lE hr.relE hwt
    simp only [wpList,hwm,aE,if_false]
    refine kV hQ os ms' _ C _ w h2 (hr.put (sv:=.undef) (dst:=o.dst) (lL.refl w) hdn rfl) ?_
    rw [<- hd]; exact hs
   unfold fI at hx
   split at hx
   ·rename_i hgn
    rw [hgn] at hw
    simp only [aAQ] at hw
    exact yes hw hx
   ·rename_i t want hgs
    rw [hgs] at hw
    simp only [aAQ] at hw
    split at hx
    ·rename_i b hb
     rw [hb] at hw
     simp only [] at hw
     by_cases e:b=want
     ·exact yes (by rw [hw,e]; simp) (hx.1 e)
     ·have e':b=!want:=by cases b<;>cases want<;>simp_all
      exact no (by rw [hw,e']; cases want<;>rfl) (hx.2 e')
    ·rename_i hb
     rw [hb] at hw
     exact no hw hx
    ·exact hx.elim
  ·cases h
end
end Go.Pe
set_option linter.all false
namespace Go.Pe
open Go Go.RowKit
def okB (w:World) (c:Ctx) (C:List OC) (R:List Nat) (b:Nat):Prop:=b < w.heap.size/\(¬ Ms c C b\/∃ r∈R,∃ oc,C[r]?=some oc/\b∈oc.fp)
def wS:SV->List Nat
 | .ptr r _ _=>[r]
 | .el r _ _ _ _=>[r]
 | _=>[]
theorem zK {w w':World} {a:Addr} (h:w'.heap[a.block]?=w.heap[a.block]?):w'.cell? a=w.cell? a:=by
 unfold World.cell?
 rw [h]
section
variable {c : Ctx} {ob : List Ob} {C : List OC} {K : SV -> Prop} {w : World}
theorem rA {P:Program} {t:TypeId} {agg:Option Nat} {y:D} (hl:aIb P t agg) (h:eU ob agg y K):∃ s,K s/\∀ (w:World) (M:Nat->Prop) (ad:Addr) (ds:List Value),RelW c ob C w ->
  (∃ f0,y.rep w M ds f0)->(ds=[]\/∀ j u,ds[j]?=some u->w.cell? (ad.add j)=some u)->∃ v,(Instr.loadAt t (.pointer (some ad))).run P w=.ok v w/\dN w M C s v/\∀ w':World,(∀ j u,ds[j]?=some u->w'.cell? (ad.add j)=some u)->(Instr.loadAt t (.pointer (some ad))).run P w'=.ok v w':=by
 cases agg with
 | none =>
  by_cases hlk:∃ q v,y=.lnk q v
  ·obtain ⟨q,v,rfl⟩:=hlk
   obtain ⟨r,h1,hK⟩:=h
   refine ⟨_,hK,fun w M ad ds hw ⟨f0,hr⟩ hc=>?_⟩
   obtain ⟨rfl,_,_⟩:=hr
   rcases hc with hc|hc
   ·cases hc
   ·have h0:=hc 0 v rfl
    obtain ⟨d,hu,hd⟩:=hl
    obtain ⟨oc,h2,h3⟩:=hw.tags q r v h1
    exact ⟨v,nK hu hd (by simpa [Addr.add] using h0),⟨oc,h2,h3.symm⟩,fun w' hk=>nK hu hd (by simpa [Addr.add] using hk 0 v rfl)⟩
  have hy:y.noOwn=true/\K (.d y)/\(∀ w M ds f0,y.rep w M ds f0->ds.length=1)/\(∀ cs,gS y cs=cs.headD Go.undef):=by
   cases y<;>simp only [eU] at h<;>first
    | exact h.elim
    | exact ⟨h.1,h.2,fun w M ds f0 hr=>dJ _ _ _ hr,fun _=>rfl⟩
    | exact absurd ⟨_,_,rfl⟩ hlk
  obtain ⟨hn,hK,hlen,hpk⟩:=hy
  refine ⟨_,hK,fun w M ad ds _ ⟨f0,hr⟩ hc=>?_⟩
  have h1:=hlen _ _ _ _ hr
  have hf:=mM _ _ _ hn hr
  subst hf
  match ds,h1 with
  | [u],_ =>
   rcases hc with hc|hc
   ·cases hc
   ·have h0:=hc 0 u rfl
    obtain ⟨d,hu,hd⟩:=hl
    refine ⟨u,nK hu hd (by simpa [Addr.add] using h0),⟨[u],hr,by rw [hpk]; rfl⟩,fun w' hk=>nK hu hd (by simpa [Addr.add] using hk 0 u rfl)⟩
 | some n =>
  cases y with
  | st xs =>
   obtain ⟨hs,hn,hK⟩:=h
   refine ⟨_,hK,fun w M ad ds _ ⟨f0,hr⟩ hc=>?_⟩
   have hf:=mM (.st xs) _ _ hn hr
   subst hf
   obtain ⟨fs,i,hu,hi,hsz⟩:=hl
   have hcc:∀ j u,ds[j]?=some u->w.cell? (ad.add j)=some u:=by
    rcases hc with hc|hc
    ·intro j u hu; rw [hc] at hu; simp at hu
    ·exact hc
   exact ⟨.agg ds.toArray,nS hu hi (by rw [dJ (.st xs) _ _ hr,hsz]; exact hs) hcc,⟨ds,hr,rfl⟩,fun w' hk=>nS hu hi (by rw [dJ (.st xs) _ _ hr,hsz]; exact hs) hk⟩
  | _=>exact h.elim
theorem aDg {t:TypeId} {agg:Option Nat} {x:SV} (hl:aIb c.P t agg) (h:lI ob agg x K):∃ s,K s/\∀ (w:World) (u:Value),RelW c ob C w->dN w (Ms c C) C x u ->
  ∃ v,(Instr.loadAt t u).run c.P w=.ok v w/\dN w (Ms c C) C s v/\∃ B:Nat->Prop,(∀ b,B b->okB w c C (wS x) b)/\∀ w':World,(∀ b,B b->w'.heap[b]?=w.heap[b]?)->(Instr.loadAt t u).run c.P w'=.ok v w':=by
 unfold lI at h
 split at h
 ·obtain ⟨s,hK,hs⟩:=rA (c:=c) (C:=C) hl h
  refine ⟨s,hK,fun w u hw hu=>?_⟩
  obtain ⟨ad,ds,rfl,hr,hh⟩:=p9 hu
  obtain ⟨v,h1,h2,h3⟩:=hs w _ ad ds hw ⟨_,hr⟩ (hh.imp id fun h=>h.2.2)
  rcases hh with rfl|⟨hlt,hn,hcell⟩
  ·exact ⟨v,h1,h2,fun _=>False,fun b hb=>hb.elim,fun w' _=>h3 w' fun j u hu=>by simp at hu⟩
  ·exact ⟨v,h1,h2,fun b=>b=ad.block,fun b hb=>by subst hb; exact ⟨hlt,.inl hn⟩,fun w' hk=>h3 w' fun j u hu=>(zK (by rw [pH]; exact hk _ rfl)).trans (hcell j u hu)⟩
 ·rename_i r off p
  obtain ⟨z,hz,ho,y,hy,h⟩:=h
  obtain ⟨s,hK,hs⟩:=rA (c:=c) (C:=C) hl h
  refine ⟨s,hK,fun w u hw hu=>?_⟩
  obtain ⟨oc,hC,rfl⟩:=hu
  obtain ⟨cs,fps,⟨cur,E,h1,h2,h3⟩,h4,h5⟩:=hw.obs r _ oc hz hC
  obtain ⟨f0,_,hr,hle⟩:=uI p z cs fps y h4 hy
  have hcell:∀ j u,((cs.drop (fL p z)).take y.size)[j]?=some u->w.cell? ((⟨oc.blk,off,none⟩:Addr).add j)=some u:=by
   intro j u hu
   rw [add_lit,h1.cell (off + j)]
   rw [List.getElem?_take] at hu
   split at hu
   ·rw [List.getElem?_drop,ho] at hu
    rw [<- Array.getElem?_toList]
    have:cur.toList=cs:=by rw [<- h3,List.take_of_length_le (by simp [h2])]
    rw [this]; exact hu
   ·cases hu
  obtain ⟨v,k1,k2,k3⟩:=hs w _ _ _ hw ⟨_,hr⟩ (.inr hcell)
  have hbm:oc.blk∈oc.fp:=by rw [h5]; simp
  exact ⟨v,k1,k2,fun b=>b=oc.blk,fun b hb=>by subst hb; exact ⟨hw.lt _ (dA.2 ⟨r,oc,hC,hbm⟩),.inr ⟨r,by simp [wS],oc,hC,hbm⟩⟩,fun w' hk=>k3 w' fun j u hu=>(zK (by rw [pH]; exact hk _ rfl)).trans (hcell j u hu)⟩
 ·rename_i r es i off p
  obtain ⟨xs,z,hz,hi,ho,y,hy,h⟩:=h
  obtain ⟨s,hK,hs⟩:=rA (c:=c) (C:=C) hl h
  refine ⟨s,hK,fun w u hw hu=>?_⟩
  obtain ⟨oc,g,n,cp,hC,hov,rfl⟩:=hu
  obtain ⟨cs,h1,h2⟩:=hw.obs r _ oc hz hC
  rw [hov] at h2
  obtain ⟨hL,a',c',ds,fps,e1,e2,h3,h4⟩:=h1
  rw [e1] at h2
  simp only [gS,List.headD_cons] at h2
  injection h2 with ha hn hc
  subst ha hn hc
  simp only [if_true] at h4
  obtain ⟨l,rfl⟩:=mA _ hL
  rw [qH] at hi
  obtain ⟨f1,f,f2,_,_,hr,_⟩:=aEG ((iU l).1 hL) h3 hi
  obtain ⟨f0,_,hr2,hle⟩:=uI p z _ f y hr hy
  rcases h4 with ⟨h4,_⟩|⟨g',h4,⟨⟨cur,E,h5,h6,h7⟩,_⟩,hfp⟩
  ·have:=cV hi; rw [eX] at e2; omega
  ·injection h4 with h4
   injection h4 with h4
   subst h4
   have hcell:∀ j u,((((ds.drop (i * es)).take es).drop (fL p z)).take y.size)[j]?=some u->w.cell? ((⟨g,i * es + off,none⟩:Addr).add j)=some u:=by
    intro j u hu
    rw [add_lit,h5.cell (i * es + off + j)]
    rw [List.getElem?_take] at hu
    split at hu
    ·rw [List.getElem?_drop,ho,List.getElem?_take] at hu
     split at hu
     ·rw [List.getElem?_drop,<-h7,List.getElem?_take] at hu
      split at hu
      ·rw [<- Array.getElem?_toList,show i * es + off + j=i * es + (off + j) by omega]; exact hu
      ·cases hu
     ·cases hu
    ·cases hu
   obtain ⟨v,k1,k2,k3⟩:=hs w _ _ _ hw ⟨_,hr2⟩ (.inr hcell)
   have hbm:g∈oc.fp:=by rw [hfp]; simp
   exact ⟨v,k1,k2,fun b=>b=g,fun b hb=>by subst hb; exact ⟨hw.lt _ (dA.2 ⟨r,oc,hC,hbm⟩),.inr ⟨r,by simp [wS],oc,hC,hbm⟩⟩,fun w' hk=>k3 w' fun j u hu=>(zK (by rw [pH]; exact hk _ rfl)).trans (hcell j u hu)⟩
 ·exact h.elim
end
def jS {α:Type} (p:Program) (m:Sem α):Prop:=∀ w r w1,m.run p w=.ok r w1->w1=w/\∀ w',m.run p w'=.ok r w'
section
variable {p : Program} {α β : Type}
theorem dK (a:α):jS p (pure a:Sem α):=fun w r w1 h=>by
 rw [aH] at h
 injection h with h1 h2
 subst h1 h2
 exact ⟨rfl,fun w'=>aH ..⟩
theorem dX {m:Sem α} {f:α->Sem β} (h1:jS p m) (h2:∀ a,jS p (f a)):jS p (m >>= f):=fun w r w1 h=>by
 rw [aB] at h
 cases hm:m.run p w with
 | ok a w0 =>
  rw [hm,aC] at h
  obtain ⟨rfl,h3⟩:=h1 w a w0 hm
  obtain ⟨rfl,h4⟩:=h2 a w0 r w1 h
  exact ⟨rfl,fun w'=>by rw [aB,h3 w',aC,h4 w']⟩
 | halt x w0=>rw [hm] at h; cases h
theorem z7 (h:Halt):jS p (Sem.halt h:Sem α):=fun w r w1 e=>by cases e
theorem eS (s:String):jS p (stuck s:Sem α):=z7 _
theorem t6 (u:Unsupported):jS p (unsupported u:Sem α):=z7 _
theorem aDO:jS p (program:Sem Program):=fun w r w1 h=>by
 cases h
 exact ⟨rfl,fun w'=>rfl⟩
def Nev (p:Program) (m:Sem α):Prop:=∀ w r w1,m.run p w≠.ok r w1
theorem m5 {m:Sem α} (h:Nev p m):jS p m:=fun w r w1 e=>absurd e (h w r w1)
theorem aCX (h:Halt):Nev p (Sem.halt h:Sem α):=fun w r w1 e=>by cases e
theorem yN {m:Sem α} {f:α->Sem β} (h:∀ a,Nev p (f a)):Nev p (m >>= f):=fun w r w1 e=>by
 rw [aB] at e
 cases hm:m.run p w with
 | ok a w0=>rw [hm,aC] at e; exact h a _ _ _ e
 | halt x w0=>rw [hm] at e; cases e
theorem aVX {m:Sem α} {f:α->Sem β} (h:Nev p m):Nev p (m >>= f):=fun w r w1 e=>by
 rw [aB] at e
 cases hm:m.run p w with
 | ok a w0=>exact h _ _ _ hm
 | halt x w0=>rw [hm] at e; cases e
theorem aHR (e:RuntimeError):Nev p (runtimePanic e:Sem α):=by
 unfold runtimePanic
 refine yN fun q=>?_
 cases e<;>first|exact aCX _|exact yN fun _=>yN fun _=>aCX _
theorem aBB (k:IntKind) (x y:Int) (cd:BoundsCode):Nev p (boundsPanic k x y cd:Sem α):=by
 unfold boundsPanic
 simp only []
 split<;>exact yN fun _=>aHR _
theorem aJ8 (t:TypeId):jS p (typeInfo t):=by
 unfold typeInfo
 refine dX aDO fun q=>?_
 split
 ·exact dK _
 ·exact eS _
theorem zN (t:TypeId):jS p (sizeOf t):=by
 unfold sizeOf
 exact dX (aJ8 t) fun i=>dK _
theorem xJ (t:TypeId):jS p (underlying t):=by
 unfold underlying
 refine dX aDO fun q=>?_
 split
 ·exact dK _
 ·exact eS _
theorem aLl (v:Value):jS p (Instr.sureAddr v):=by
 unfold Instr.sureAddr
 split
 ·exact dK _
 ·exact eS _
theorem aBR (v:Value):jS p (asIntOf v):=by
 unfold asIntOf
 split
 ·exact dK _
 ·exact t6 _
 ·exact eS _
theorem aF5 (v:Value):jS p (asBool v):=by
 unfold asBool
 split
 ·exact dK _
 ·exact eS _
theorem sB (v:Value) (n:Nat) (cd:BoundsCode):jS p (Instr.sliceBound v n cd):=by
 unfold Instr.sliceBound
 refine dX (aBR v) fun x=>?_
 obtain ⟨k,i⟩:=x
 simp only []
 split
 ·exact dK _
 ·exact m5 (aBB _ _ _ _)
theorem uO (b:Bool) (n cp:Nat) (lo hi:Option Value):jS p (Instr.sliceBounds b n cp lo hi none):=by
 unfold Instr.sliceBounds
 simp only []
 refine dX (dK _) fun m=>?_
 cases hi<;>cases lo<;>simp only []
 ·exact dX (dK _) fun _=>dX (dK _) fun _=>dK _
 ·exact dX (dK _) fun _=>dX (sB _ _ _) fun _=>dK _
 ·exact dX (sB _ _ _) fun _=>dX (dK _) fun _=>dK _
 ·exact dX (sB _ _ _) fun _=>dX (sB _ _ _) fun _=>dK _
theorem aE7 (v:Value) (i:Nat):jS p (Instr.extract v i):=by
 unfold Instr.extract
 split
 ·split
  ·exact dK _
  ·exact eS _
 ·exact eS _
theorem aIJ (t:TypeId) (x i:Value):jS p (Instr.indexAt t x i):=by
 unfold Instr.indexAt
 refine dX (aBR i) fun ki=>?_
 obtain ⟨k,n⟩:=ki
 simp only []
 refine dX (xJ t) fun d=>?_
 split
 ·refine dX (aLl _) fun a=>?_
  refine dX (dK _) fun q=>?_
  obtain ⟨base,len,elem⟩:=q
  simp only []
  refine dX (xJ t) fun d2=>?_
  cases base with
  | none=>exact m5 (aBB _ _ _ _)
  | some ad =>
   simp only []
   split
   ·exact dX (zN _) fun _=>dK _
   ·repeat' (first
     | exact t6 _
     | exact m5 (aBB _ _ _ _)
     | split)
 ·refine dX (dK _) fun q=>?_
  obtain ⟨base,len,elem⟩:=q
  simp only []
  refine dX (xJ t) fun d2=>?_
  cases base with
  | none=>exact m5 (aBB _ _ _ _)
  | some ad =>
   simp only []
   split
   ·exact dX (zN _) fun _=>dK _
   ·repeat' (first
     | exact t6 _
     | exact m5 (aBB _ _ _ _)
     | split)
 ·exact m5 (aVX (aCX _))
theorem aCp {t:TypeId} {d:TypeDesc} (ht:p.underlying t=some d) (hd:d=.string\/∃ e,d=.slice e) (x:Value) (lo hi:Option Value):jS p (Instr.sliceAt t x lo hi none):=by
 have e:∀ {α:Type} (f:TypeDesc->Sem α),jS p (f d)->jS p (underlying t >>= f):=fun f hf w r w1 h=>by
  rw [aB,run_underlying ht,aC] at h
  obtain ⟨h1,h2⟩:=hf w r w1 h
  exact ⟨h1,fun w'=>by rw [aB,run_underlying ht,aC]; exact h2 w'⟩
 unfold Instr.sliceAt
 refine e _ ?_
 rcases hd with rfl|⟨el,rfl⟩
 ·simp only []
  unfold Instr.slice
  simp only []
  refine e _ ?_
  cases x<;>simp only [Option.isSome_none,aE,if_false]<;>first
   | exact eS _
   | exact dX (uO _ _ _ _ _) fun b=>dK _
   | exact dX (dK _) fun _=>dX (uO _ _ _ _ _) fun b=>dK _
 ·simp only []
  unfold Instr.slice
  simp only []
  refine e _ ?_
  cases x<;>simp only []<;>first
   | exact eS _
   | exact dX (uO _ _ _ _ _) fun b=>dX (zN _) fun _=>dK _
theorem aNJ {t ty:TypeId} {d:TypeDesc} (ht:p.underlying t=some d) (hd:d=.string\/∃ e,d=.slice e) (x:Value):jS p (Builtin.len_ #[t] ty #[x]):=by
 have e:∀ {α:Type} (f:TypeDesc->Sem α),jS p (f d)->jS p (underlying t >>= f):=fun f hf w r w1 h=>by
  rw [aB,run_underlying ht,aC] at h
  obtain ⟨h1,h2⟩:=hf w r w1 h
  exact ⟨h1,fun w'=>by rw [aB,run_underlying ht,aC]; exact h2 w'⟩
 unfold Builtin.len_
 simp only [List.getElem?_toArray,List.getElem?_cons_zero]
 refine e _ ?_
 rcases hd with rfl|⟨el,rfl⟩<;>cases x<;>first|exact dK _|exact eS _
theorem aHO {s:TypeId} {fs:Array Field} {fd:Field} {f:Nat} {inf:TypeInfo} (ht:p.underlying s=some (.struct fs)) (hf:fs[f]?=some fd) (hi:p.info? fd.type=some inf) (hz:inf.size≠0) (x:Value):jS p (Instr.fieldAt s x f):=by
 by_cases hx:∃ ad,x=.pointer (some ad)
 ·obtain ⟨ad,rfl⟩:=hx
  have hrun:∀ w:World,(Instr.fieldAt s (.pointer (some ad)) f).run p w=.ok (.pointer (some (ad.add fd.offset))) w:=by
   intro w
   simp [Instr.fieldAt,run_underlying ht,hf,Instr.sureAddr,fieldPlace,sizeOf,typeInfo,hi,hz]
  intro w r w1 h
  rw [hrun] at h
  injection h with h1 h2
  subst h1 h2
  exact ⟨rfl,hrun⟩
 ·refine m5 fun w r w1 h=>?_
  obtain ⟨e0, this⟩ : ∃ e : String, (Instr.sureAddr x : Sem Addr) = stuck e := by
   unfold Instr.sureAddr
   split
   ·rename_i a; exact absurd ⟨_,rfl⟩ hx
   ·exact ⟨_, rfl⟩
  simp [Instr.fieldAt,run_underlying ht,hf,this,stuck] at h
theorem aC5 (op:BinOp) (k:IntKind) (a b:Int):jS p (Op.intArith op k a b):=by
 unfold Op.intArith; split<;>first|exact dK _|exact eS _
theorem aLU (op:BinOp) (k:IntKind) (a b:Int):jS p (Op.intDiv op k a b):=by
 unfold Op.intDiv
 split
 ·exact m5 (aHR _)
 ·split<;>first|exact dK _|exact eS _
theorem aD5 (op:BinOp) (k:IntKind) (a b:Int):jS p (Op.intBits op k a b):=by
 unfold Op.intBits; simp only []; split<;>first|exact dK _|exact eS _
theorem aNB (op:BinOp) (a b:Int):jS p (Op.intCmp op a b):=by
 unfold Op.intCmp; split<;>first|exact dK _|exact eS _
theorem aIL (op:BinOp) (k:IntKind) (a:Int) (k':IntKind) (b:Int):jS p (Op.shift op k a k' b):=by
 unfold Op.shift
 split
 ·exact m5 (aHR _)
 ·simp only []; split<;>first|exact dK _|exact eS _
theorem aNm (op:BinOp) (a b:ByteArray):jS p (Op.stringOp op a b):=by
 unfold Op.stringOp
 simp only []
 split<;>first|exact dK _|exact eS _|(split<;>first|exact dK _|exact t6 _|exact eS _|exact z7 _)
theorem aH3 (op:UnOp) (x:Value):jS p (Op.unary op x):=by
 unfold Op.unary
 split<;>first|exact aC5 _ _ _ _|exact aD5 _ _ _ _|exact dK _|exact t6 _|exact eS _
end
section
end
def s3:MO->Bool
 | .mov _=>true
 | .pick _ _ _=>true
 | .bin _ _ _=>true
 | .un _ _=>true
 | .ld _ _=>true
 | .fa _ _ _=>true
 | .nck _=>true
 | .ia _ _ _=>true
 | .len _ _=>true
 | .ext _ _=>true
 | .sls _ _ _=>true
 | .slx _ _ _ _=>true
 | _=>false
def aUf (c:Ctx) (ob:List Ob) (C:List OC) (o:Oper) (E:Nat->SV) (s:SV):Prop :=
 ∀ a w,RelW c ob C w->aAK c C o E a w->∃ v,(execOp a.eval o).run c.P w=.ok (.value v) w/\dN w (Ms c C) C s v
section
variable {c : Ctx} {ob : List Ob} {C : List OC} {o : Oper} {E : Nat -> SV} {K : SV -> Prop} {mo : MO}
theorem aKV (hq:s3 mo=true) (hc:wF c.P true o.op=some mo) (h:eZ c.G ob E mo K):∃ s,K s/\aUf c ob C o E s:=by
 obtain ⟨dst,op,ty,pos,after,guard⟩:=o
 simp only at hc
 unfold wF at hc
 split at hc
 case h_1 x|h_2 x =>
  obtain ⟨p,hp,rfl⟩:=aA.1 hc
  exact ⟨_,h,fun a w hw ho=>⟨a.eval x,rfl,eG ho (by simp [Op.operands]) hp⟩⟩
 case h_3 cc x y =>
  split at hc
  ·rename_i p q r h1 h2 h3
   injection hc with hc
   subst hc
   simp only [eZ] at h
   split at h
   ·rename_i t ht
    cases t with
    | true =>
     refine ⟨_,h.1 rfl,fun a w hw ho=>⟨a.eval x,?_,eG ho (by simp [Op.operands]) h2⟩⟩
     have:=eG ho (x:=cc) (by simp [Op.operands]) h1
     rw [ht] at this
     simp [execOp,dZ.1 this,asBool]
    | false =>
     refine ⟨_,h.2 rfl,fun a w hw ho=>⟨a.eval y,?_,eG ho (by simp [Op.operands]) h3⟩⟩
     have:=eG ho (x:=cc) (by simp [Op.operands]) h1
     rw [ht] at this
     simp [execOp,dZ.1 this,asBool]
   ·exact h.elim
  ·cases hc
 case h_4 t x y yt =>
  unfold aBo at hc
  split at hc
  ·rename_i k p q hu h1 h2
   injection hc with hc
   subst hc
   obtain ⟨s,hK,hs⟩:=wH (c:=c) (C:=C) (t:=t) h
   refine ⟨s,hK,fun a w hw ho=>?_⟩
   obtain ⟨v,hv,hr⟩:=hs w _ _ _ x y (eG ho (x:=x) (by simp [Op.operands]) h1) (eG ho (x:=y) (by simp [Op.operands]) h2)
   exact ⟨v,by simp only [execOp,aB] at hv ⊢; rw [hv]; rfl,hr⟩
  ·cases hc
 case h_5 bop t x y yt hne =>
  unfold aBp at hc
  split at hc
  ·rename_i k p q hu h1 h2
   injection hc with hc
   subst hc
   simp only [eZ,k0] at h
   split at h
   ·rename_i k1 a1 k2 a2 e1 e2
    obtain ⟨rfl,h⟩:=h
    obtain ⟨s,hK,hs⟩:=nZ (c:=c) (C:=C) h
    refine ⟨s,hK,fun a w hw ho=>?_⟩
    have r1:=eG ho (x:=x) (by simp [Op.operands]) h1
    have r2:=eG ho (x:=y) (by simp [Op.operands]) h2
    rw [e1] at r1
    rw [e2] at r2
    obtain ⟨v,hv,hr⟩:=hs w (Ms c C) t x y
    rw [<- dH.1 r1,<-dH.1 r2] at hv
    exact ⟨v,by simp only [execOp,aB] at hv ⊢; rw [hv]; rfl,hr⟩
   ·rename_i a1 a2 e1 e2
    obtain ⟨s,hK,hs⟩:=nY (c:=c) (C:=C) h
    refine ⟨s,hK,fun a w hw ho=>?_⟩
    have r1:=eG ho (x:=x) (by simp [Op.operands]) h1
    have r2:=eG ho (x:=y) (by simp [Op.operands]) h2
    rw [e1] at r1
    rw [e2] at r2
    obtain ⟨v,hv,hr⟩:=hs w (Ms c C) t x y
    rw [<- eP.1 r1,<-eP.1 r2] at hv
    exact ⟨v,by simp only [execOp,aB] at hv ⊢; rw [hv]; rfl,hr⟩
   ·exact h.elim
  ·rename_i p q hu h1 h2
   injection hc with hc
   subst hc
   simp only [eZ,k0] at h
   split at h
   ·rename_i k1 a1 k2 a2 e1 e2
    obtain ⟨rfl,h⟩:=h
    obtain ⟨s,hK,hs⟩:=nZ (c:=c) (C:=C) h
    refine ⟨s,hK,fun a w hw ho=>?_⟩
    have r1:=eG ho (x:=x) (by simp [Op.operands]) h1
    have r2:=eG ho (x:=y) (by simp [Op.operands]) h2
    rw [e1] at r1
    rw [e2] at r2
    obtain ⟨v,hv,hr⟩:=hs w (Ms c C) t x y
    rw [<- dH.1 r1,<-dH.1 r2] at hv
    exact ⟨v,by simp only [execOp,aB] at hv ⊢; rw [hv]; rfl,hr⟩
   ·rename_i a1 a2 e1 e2
    obtain ⟨s,hK,hs⟩:=nY (c:=c) (C:=C) h
    refine ⟨s,hK,fun a w hw ho=>?_⟩
    have r1:=eG ho (x:=x) (by simp [Op.operands]) h1
    have r2:=eG ho (x:=y) (by simp [Op.operands]) h2
    rw [e1] at r1
    rw [e2] at r2
    obtain ⟨v,hv,hr⟩:=hs w (Ms c C) t x y
    rw [<- eP.1 r1,<-eP.1 r2] at hv
    exact ⟨v,by simp only [execOp,aB] at hv ⊢; rw [hv]; rfl,hr⟩
   ·exact h.elim
  ·rename_i p q hu h1 h2
   injection hc with hc
   subst hc
   simp only [eZ,u3] at h
   split at h
   ·rename_i a1 a2 e1 e2
    obtain ⟨s,hK,hs⟩:=tZ (c:=c) (C:=C) hu h
    refine ⟨s,hK,fun a w hw ho=>?_⟩
    have r1:=eG ho (x:=x) (by simp [Op.operands]) h1
    have r2:=eG ho (x:=y) (by simp [Op.operands]) h2
    rw [e1] at r1
    rw [e2] at r2
    obtain ⟨v,hv,hr⟩:=hs w (Ms c C) x y
    rw [<- dZ.1 r1,<-dZ.1 r2] at hv
    exact ⟨v,by simp only [execOp,aB] at hv ⊢; rw [hv]; rfl,hr⟩
   ·exact h.elim
  ·rename_i ms p q hu h1 h2
   split at hc
   ·split at hc
    ·rename_i hms
     injection hc with hc
     subst hc
     simp only [eZ] at h
     obtain ⟨s,hK,hs⟩:=yX (c:=c) (C:=C) (by rw [hms]; exact hu) h
     refine ⟨s,hK,fun a w hw ho=>?_⟩
     obtain ⟨v,hv,hr⟩:=hs w (Ms c C) x _ _ _ rfl (eG ho (x:=x) (by simp [Op.operands]) h1) (eG ho (x:=.const .nilIface) (by simp [Op.operands]) h2)
     exact ⟨v,by simp only [execOp,aB] at hv ⊢; rw [hv]; rfl,hr⟩
    ·cases hc
   ·cases hc
  ·obtain ⟨neg,ks,rfl⟩:=z6 hc
   cases hq
  ·cases hc
 case h_6 uop t x =>
  obtain ⟨p,hp,rfl⟩:=aA.1 hc
  obtain ⟨s,hK,hs⟩:=y9 (C:=C) (c:=c) h
  refine ⟨s,hK,fun a w hw ho=>?_⟩
  obtain ⟨v,hv,hr⟩:=hs w _ _ (eG ho (x:=x) (by simp [Op.operands]) hp)
  exact ⟨v,by simp only [execOp,aB]; rw [hv]; rfl,hr⟩
 case h_7 x =>
  obtain ⟨p,hp,rfl⟩:=aA.1 hc
  simp only [eZ] at h
  split at h
  ·rename_i y e
   refine ⟨_,h,fun a w hw ho=>?_⟩
   have r:=eG ho (x:=x) (by simp [Op.operands]) hp
   rw [e] at r
   obtain ⟨ad,ds,hv,h1,h2⟩:=p9 r
   exact ⟨a.eval x,by simp only [execOp,hv]; rfl,r⟩
  ·rename_i r off p' e
   refine ⟨_,h,fun a w hw ho=>?_⟩
   have r:=eG ho (x:=x) (by simp [Op.operands]) hp
   rw [e] at r
   have r':=r
   obtain ⟨oc,h1,hv⟩:=r
   exact ⟨a.eval x,by simp only [execOp,hv]; rfl,r'⟩
  ·rename_i r es i off p' e
   refine ⟨_,h,fun a w hw ho=>?_⟩
   have r:=eG ho (x:=x) (by simp [Op.operands]) hp
   rw [e] at r
   have r':=r
   obtain ⟨oc,g,n,cp,h1,h2,hv⟩:=r
   exact ⟨a.eval x,by simp only [execOp,hv]; rfl,r'⟩
  ·rename_i g xs e
   refine ⟨_,h,fun a w hw ho=>?_⟩
   have r:=eG ho (x:=x) (by simp [Op.operands]) hp
   rw [e] at r
   have r':=r
   obtain ⟨cs,⟨_,ds,h1,_⟩,hv⟩:=r
   rw [h1] at hv
   exact ⟨a.eval x,by simp only [execOp,hv]; rfl,r'⟩
  ·exact h.elim
 case h_8 t x =>
  obtain ⟨agg,p,rfl,hp,hl⟩:=(aAa hc).resolve_right (by rintro ⟨n,p,rfl,_⟩; cases hq)
  obtain ⟨s,hK,hs⟩:=pF (C:=C) hl h
  refine ⟨s,hK,fun a w hw ho=>?_⟩
  obtain ⟨v,hv,hr⟩:=hs w _ hw (eG ho (x:=x) (by simp [Op.operands]) hp)
  exact ⟨v,by simp only [execOp,aB]; rw [hv]; rfl,hr⟩
 case h_9 st x f =>
  unfold aE9 at hc
  split at hc
  ·rename_i fs p hu hp
   split at hc
   ·rename_i fd hf
    split at hc
    ·rename_i n hn
     injection hc with hc
     subst hc
     simp only [eH,aA] at hn
     obtain ⟨inf,hi,hsz⟩:=hn
     obtain ⟨s,hK,hs⟩:=xR (c:=c) (C:=C) hu hf hi (by omega) h
     refine ⟨s,hK,fun a w hw ho=>?_⟩
     obtain ⟨v,hv,hr⟩:=hs w _ (eG ho (x:=x) (by simp [Op.operands]) hp)
     exact ⟨v,by simp only [execOp,aB]; rw [hv]; rfl,hr⟩
    ·cases hc
   ·cases hc
  ·cases hc
 case h_10 t x i =>
  unfold aHV at hc
  split at hc
  ·rename_i e p q hu h1 h2
   obtain ⟨n,hn,rfl⟩:=aA.1 hc
   simp only [eH,aA] at hn
   obtain ⟨inf,hi,rfl⟩:=hn
   obtain ⟨s,hK,hs⟩:=yW (C:=C) hu hi h
   refine ⟨s,hK,fun a w hw ho=>?_⟩
   obtain ⟨v,hv,hr⟩:=hs w _ _ hw (eG ho (x:=x) (by simp [Op.operands]) h1) (eG ho (x:=i) (by simp [Op.operands]) h2)
   exact ⟨v,by simp only [execOp,aB]; rw [hv]; rfl,hr⟩
  ·obtain ⟨n,hn,rfl⟩:=aA.1 hc
   cases hq
  ·cases hc
 case h_11 t x i =>
  unfold aFa at hc
  split at hc
  ·rename_i p q hu h1 h2
   injection hc with hc
   subst hc
   obtain ⟨s,hK,hs⟩:=yD (c:=c) (C:=C) hu h
   refine ⟨s,hK,fun a w hw ho=>?_⟩
   obtain ⟨v,hv,hr⟩:=hs w _ _ (eG ho (x:=x) (by simp [Op.operands]) h1) (eG ho (x:=i) (by simp [Op.operands]) h2)
   exact ⟨v,by simp only [execOp,aB]; rw [hv]; rfl,hr⟩
  ·cases hc
 case h_12 x i =>
  obtain ⟨p,hp,rfl⟩:=aA.1 hc
  obtain ⟨s,hK,hs⟩:=wE (c:=c) (C:=C) h
  refine ⟨s,hK,fun a w hw ho=>?_⟩
  obtain ⟨v,hv,hr⟩:=hs w _ _ (eG ho (x:=x) (by simp [Op.operands]) hp)
  exact ⟨v,by simp only [execOp,aB]; rw [hv]; rfl,hr⟩
 case h_13 src dst' x =>
  unfold yH at hc
  split at hc
  ·rename_i e p h1 h2 hp
   split at hc
   ·rename_i he
    injection hc with hc
    subst hc
    obtain ⟨s,hK,hs⟩:=wK (c:=c) (C:=C) h1 he h2 h
    refine ⟨s,hK,fun a w hw ho=>?_⟩
    obtain ⟨v,hv,hr⟩:=hs w _ hw (eG ho (x:=x) (by simp [Op.operands]) hp)
    exact ⟨v,by simp only [execOp,aB]; rw [hv]; rfl,hr⟩
   ·cases hc
  ·rename_i j k p h1 h2 hp
   injection hc with hc
   subst hc
   obtain ⟨s,hK,hs⟩:=uT (c:=c) (C:=C) h1 h2 h
   refine ⟨s,hK,fun a w hw ho=>?_⟩
   obtain ⟨v,hv,hr⟩:=hs w _ _ (eG ho (x:=x) (by simp [Op.operands]) hp)
   exact ⟨v,by simp only [execOp,aB]; rw [hv]; rfl,hr⟩
  ·cases hc
 case h_14 t x lo hi =>
  unfold aFr at hc
  split at hc
  ·rename_i p l r hu hp hl hr
   injection hc with hc
   subst hc
   obtain ⟨s,hK,hs⟩:=vV (c:=c) (C:=C) hu h
   refine ⟨s,hK,fun a w hw ho=>?_⟩
   have side:∀ (y:Option Operand) (q:Option Opd),aJP y=some q->(∀ z,y=some z->z∈(Op.slice t x lo hi none).operands) ->
     (∀ z,tV E q=some z->∃ v,y.map a.eval=some v/\dN w (Ms c C) C z v)/\(tV E q=none->y.map a.eval=none):=by
    intro y q hq hm
    cases y with
    | none=>injection hq with hq; subst hq; exact ⟨fun z hz=>(by cases hz),fun _=>rfl⟩
    | some y =>
     obtain ⟨q',hq',rfl⟩:=aA.1 hq
     refine ⟨fun z hz=>?_,fun hz=>(by cases hz)⟩
     injection hz with hz
     subst hz
     exact ⟨_,rfl,eG ho (hm y rfl) hq'⟩
   obtain ⟨l1,l2⟩:=side lo l hl (by rintro z rfl; simp [Op.operands])
   obtain ⟨r1,r2⟩:=side hi r hr (by rintro z rfl; simp [Op.operands])
   obtain ⟨v,hv,hr⟩:=hs w _ _ (lo.map a.eval) (hi.map a.eval) (eG ho (x:=x) (by simp [Op.operands]) hp) l1 l2 r1 r2
   exact ⟨v,by simp only [execOp,aB,bE]; rw [hv]; rfl,hr⟩
  ·rename_i e p l r hu hp hl hr
   obtain ⟨n,hn,hc⟩:=aA.1 hc
   subst hc
   obtain ⟨inf,hinf,rfl⟩:=aA.1 hn
   obtain ⟨s,hK,hs⟩:=rC (c:=c) (C:=C) hu hinf h
   refine ⟨s,hK,fun a w hw ho=>?_⟩
   have side:∀ (y:Option Operand) (q:Option Opd),aJP y=some q->(∀ z,y=some z->z∈(Op.slice t x lo hi none).operands) ->
     (∀ z,tV E q=some z->∃ v,y.map a.eval=some v/\dN w (Ms c C) C z v)/\(tV E q=none->y.map a.eval=none):=by
    intro y q hq hm
    cases y with
    | none=>injection hq with hq; subst hq; exact ⟨fun z hz=>(by cases hz),fun _=>rfl⟩
    | some y =>
     obtain ⟨q',hq',rfl⟩:=aA.1 hq
     refine ⟨fun z hz=>?_,fun hz=>(by cases hz)⟩
     injection hz with hz
     subst hz
     exact ⟨_,rfl,eG ho (hm y rfl) hq'⟩
   obtain ⟨l1,l2⟩:=side lo l hl (by rintro z rfl; simp [Op.operands])
   obtain ⟨r1,r2⟩:=side hi r hr (by rintro z rfl; simp [Op.operands])
   obtain ⟨v,hv,hr⟩:=hs w _ (lo.map a.eval) (hi.map a.eval) hw (eG ho (x:=x) (by simp [Op.operands]) hp) l1 l2 r1 r2
   exact ⟨v,by simp only [execOp,aB,bE]; rw [hv]; rfl,hr⟩
  ·cases hc
 case h_15 t x lo hi m =>
  unfold aBe at hc
  split at hc
  ·rename_i e p hu hp
   split at hc
   ·rename_i k1 k2 hm
    split at hc
    ·rename_i hz
     obtain ⟨n,hn,hc⟩:=aA.1 hc
     subst hc
     obtain ⟨inf,hinf,rfl⟩:=aA.1 hn
     injection hm with hm
     subst hm
     obtain ⟨s,hK,hs⟩:=wJ (c:=c) (C:=C) hu hinf h
     refine ⟨s,hK,fun a w hw ho=>?_⟩
     have hl:lo.map a.eval=none\/∃ k,lo.map a.eval=some (.int k 0):=by
      unfold zero? at hz
      split at hz
      ·exact .inl rfl
      ·exact .inr ⟨_,rfl⟩
      ·cases hz
     obtain ⟨v,hv,hr⟩:=hs w _ (lo.map a.eval) hw (eG ho (x:=x) (by simp [Op.operands]) hp) hl k1 k2
     exact ⟨v,by simp only [execOp,aB,aK]; simp only [Act.eval] at hv ⊢; rw [hv]; rfl,hr⟩
    ·cases hc
   ·cases hc
  ·cases hc
 case h_16 g caps =>
  obtain ⟨ps,hps,rfl⟩:=aA.1 hc
  simp only [eZ] at h
  split at h
  ·rename_i xs hx
   refine ⟨_,h,fun a w hw ho=>?_⟩
   obtain ⟨hl,hv⟩:=uC (C:=C) (E:=E) (a:=a) (w:=w) caps.toList ps hps (fun t ht=>ho t (by simpa [Op.operands] using ht))
   have hcap:=zX (w:=w) (M:=Ms c C) (C:=C) (ps.map (iP E)) (caps.toList.map a.eval) xs hx hl hv
   refine ⟨.func (.func g) #[] (caps.map a.eval),by simp [execOp,Instr.makeFunc],[.func (.func g) #[] (caps.map a.eval)],⟨rfl,caps.toList.map a.eval,?_,hcap⟩,rfl⟩
   have:Array.map a.eval caps=(caps.toList.map a.eval).toArray:=by apply Array.ext'; simp
   rw [this]
  ·exact h.elim
 case h_17 t xs ts =>
  obtain ⟨ps,hps,rfl⟩:=aA.1 hc
  simp [s3] at hq
 case h_18 xs ts =>
  unfold aBi at hc
  split at hc
  ·rename_i t x
   have fin:∀ p str,nF x=some p->lD ob str (iP E p) K->(if str then c.P.underlying t=some .string else ∃ e,c.P.underlying t=some (.slice e)) ->
     ∃ s,K s/\aUf c ob C { dst:=dst,op:=.call { callee:=.builtin .len,args:=#[x],argTypes:=#[t] },type:=ty,pos:=pos,after:=after,guard:=guard } E s:=by
    intro p str hp h hu
    obtain ⟨s,hK,hs⟩:=wM (C:=C) (ty:=ty) hu h
    refine ⟨s,hK,fun a w hw ho=>?_⟩
    obtain ⟨v,hv,hr⟩:=hs w _ hw (eG ho (x:=x) (by simp [Op.operands,Call.operands]) hp)
    refine ⟨v,?_,hr⟩
    simp only [execOp,resolve,aB,aH,aC,invoke,builtin,aS,aW,a7]
    rw [hv]; rfl
   split at hc
   ·rename_i p hu hp
    injection hc with hc
    subst hc
    exact fin _ _ hp h (by simpa using hu)
   ·rename_i e p hu hp
    injection hc with hc
    subst hc
    exact fin _ _ hp h (by simpa using ⟨e,hu⟩)
   ·cases hc
  ·cases hc
 case h_19 xs ts =>
  unfold wT at hc
  split at hc
  ·rename_i x y
   split at hc
   ·rename_i p q h1 h2
    injection hc with hc
    subst hc
    obtain ⟨s,hK,hs⟩:=o7 (c:=c) (C:=C) (ts:=ts) (ty:=ty) h
    refine ⟨s,hK,fun a w hw ho=>?_⟩
    obtain ⟨v,hv,hr⟩:=hs w _ _ _ (eG ho (x:=x) (by simp [Op.operands,Call.operands]) h1) (eG ho (x:=y) (by simp [Op.operands,Call.operands]) h2)
    refine ⟨v,?_,hr⟩
    simp only [if_true] at hv
    simp only [execOp,resolve,aB,aH,aC,invoke,builtin,aS,aW,a7]
    rw [hv]; rfl
   ·cases hc
  ·cases hc
 case h_20 xs ts =>
  unfold wT at hc
  split at hc
  ·rename_i x y
   split at hc
   ·rename_i p q h1 h2
    injection hc with hc
    subst hc
    obtain ⟨s,hK,hs⟩:=o7 (c:=c) (C:=C) (ts:=ts) (ty:=ty) h
    refine ⟨s,hK,fun a w hw ho=>?_⟩
    obtain ⟨v,hv,hr⟩:=hs w _ _ _ (eG ho (x:=x) (by simp [Op.operands,Call.operands]) h1) (eG ho (x:=y) (by simp [Op.operands,Call.operands]) h2)
    refine ⟨v,?_,hr⟩
    simp only [aE,if_false] at hv
    simp only [execOp,resolve,aB,aH,aC,invoke,builtin,aS,aW,a7]
    rw [hv]; rfl
   ·cases hc
  ·cases hc
 case h_21 f xs ts =>
  unfold rW at hc
  split at hc
  ·split at hc
   ·injection hc with hc
    simp only [if_true] at hc
    subst hc
    simp [s3] at hq
   ·cases hc
  ·cases hc
 case h_22=>cases hc
end
def aAT:MO->Bool
 | .ld _ _=>true
 | _=>false
def aCx (E:Nat->SV):MO->List Nat
 | .ld _ x=>wS (iP E x)
 | _=>[]
theorem aHn {p:Program} (op:BinOp) (t:TypeId) (x y:Operand) (a b:Value) (h:(∃ k n k' m,a=.int k n/\b=.int k' m)\/∃ s s',a=.string s/\b=.string s'):jS p (eqGuard op t x y a b):=by
 unfold eqGuard
 rcases h with ⟨k,n,k',m,rfl,rfl⟩|⟨s,s',rfl,rfl⟩<;>split<;>exact dK _
theorem aJT {p:Program} (op:BinOp) (t:TypeId) (k k':IntKind) (a b:Int):jS p (binOp op t (.int k a) (.int k' b)):=by
 unfold binOp
 split
 all_goals first
  | contradiction
  |(rename_i e1 e2; injection e1; done)
  | skip
 all_goals first
  |(rename_i e1 e2
    injection e1 with e3 e4
    injection e2 with e5 e6
    subst e3 e4 e5 e6
    exact aIL _ _ _ _ _)
  | skip
 all_goals first
  |(split
    ·exact eS _
    ·split<;>first|exact aC5 _ _ _ _|exact aLU _ _ _ _|exact aD5 _ _ _ _|exact aNB _ _ _)
  | exact eS _
theorem aKU {p:Program} (op:BinOp) (t:TypeId) (a b:ByteArray):jS p (binOp op t (.string a) (.string b)):=by
 have:binOp op t (.string a) (.string b)=Op.stringOp op a b:=by cases op<;>rfl
 rw [this]; exact aNm _ _ _
section
variable {c : Ctx} {ob : List Ob} {C : List OC} {o : Oper} {E : Nat -> SV} {K : SV -> Prop} {mo : MO}
theorem aUU (hq:s3 mo=true) (hc:wF c.P true o.op=some mo) (h:eZ c.G ob E mo K):∃ s,K s/\∀ a w,RelW c ob C w->aAK c C o E a w ->
  ∃ v,(execOp a.eval o).run c.P w=.ok (.value v) w/\dN w (Ms c C) C s v/\∃ B:Nat->Prop,(∀ b,B b->okB w c C (aCx E mo) b)/\(aAT mo=false->∀ b,¬ B b)/\∀ w':World,(∀ b,B b->w'.heap[b]?=w.heap[b]?)->(execOp a.eval o).run c.P w'=.ok (.value v) w':=by
 have hrun:=aKV (C:=C) hq hc h
 have fin:(∀ a w,RelW c ob C w->aAK c C o E a w->jS c.P (execOp a.eval o))->∃ s,K s/\∀ a w,RelW c ob C w->aAK c C o E a w ->
   ∃ v,(execOp a.eval o).run c.P w=.ok (.value v) w/\dN w (Ms c C) C s v/\∃ B:Nat->Prop,(∀ b,B b->okB w c C (aCx E mo) b)/\(aAT mo=false->∀ b,¬ B b)/\∀ w':World,(∀ b,B b->w'.heap[b]?=w.heap[b]?)->(execOp a.eval o).run c.P w'=.ok (.value v) w':=by
  intro hf
  obtain ⟨s,hK,hs⟩:=hrun
  refine ⟨s,hK,fun a w hw ho=>?_⟩
  obtain ⟨v,h1,h2⟩:=hs a w hw ho
  exact ⟨v,h1,h2,fun _=>False,fun b hb=>hb.elim,fun _ _ h=>h,fun w' _=>(hf a w hw ho w _ _ h1).2 w'⟩
 obtain ⟨dst,op,ty,pos,after,guard⟩:=o
 simp only at hc
 unfold wF at hc
 split at hc
 case h_1 x|h_2 x=>exact fin fun a w hw ho=>dK _
 case h_3 cc x y=>exact fin fun a w hw ho=>dX (aF5 _) fun b=>dK _
 case h_4 t x y yt =>
  unfold aBo at hc
  split at hc
  ·injection hc with hc; subst hc; cases hq
  ·cases hc
 case h_5 bop t x y yt hne =>
  unfold aBp at hc
  have fb:∀ p q,nF x=some p->nF y=some q->k0 bop (iP E p) (iP E q) K->∀ a w,RelW c ob C w->aAK c C { dst:=dst,op:=.binOp bop t x y yt,type:=ty,pos:=pos,after:=after,guard:=guard } E a w->jS c.P (execOp a.eval { dst:=dst,op:=.binOp bop t x y yt,type:=ty,pos:=pos,after:=after,guard:=guard }):=by
   intro p q h1 h2 h a w hw ho
   have r1:=eG ho (x:=x) (by simp [Op.operands]) h1
   have r2:=eG ho (x:=y) (by simp [Op.operands]) h2
   simp only [k0] at h
   split at h
   ·rename_i k1 a1 k2 a2 e1 e2
    rw [e1] at r1
    rw [e2] at r2
    have v1:=dH.1 r1
    have v2:=dH.1 r2
    simp only [execOp,v1,v2]
    exact dX (dX (aHn _ _ _ _ _ _ (.inl ⟨_,_,_,_,rfl,rfl⟩)) fun _=>aJT _ _ _ _ _ _) fun _=>dK _
   ·rename_i a1 a2 e1 e2
    rw [e1] at r1
    rw [e2] at r2
    have v1:=eP.1 r1
    have v2:=eP.1 r2
    simp only [execOp,v1,v2]
    exact dX (dX (aHn _ _ _ _ _ _ (.inr ⟨_,_,rfl,rfl⟩)) fun _=>aKU _ _ _ _) fun _=>dK _
   ·exact h.elim
  split at hc
  ·rename_i k p q hu h1 h2
   injection hc with hc
   subst hc
   exact fin (fb p q h1 h2 h)
  ·rename_i p q hu h1 h2
   injection hc with hc
   subst hc
   exact fin (fb p q h1 h2 h)
  ·injection hc with hc; subst hc; cases hq
  ·split at hc
   ·split at hc
    ·injection hc with hc; subst hc; cases hq
    ·cases hc
   ·cases hc
  ·obtain ⟨neg,ks,rfl⟩:=z6 hc
   cases hq
  ·cases hc
 case h_6 uop t x=>exact fin fun a w hw ho=>dX (aH3 _ _) fun b=>dK _
 case h_7 x =>
  obtain ⟨p,hp,rfl⟩:=aA.1 hc
  refine fin fun a w hw ho=>?_
  have r:=eG ho (x:=x) (by simp [Op.operands]) hp
  simp only [eZ] at h
  split at h
  ·rename_i y e
   rw [e] at r
   obtain ⟨ad,ds,hv,h1,h2⟩:=p9 r
   simp only [execOp,hv]
   exact dK _
  ·rename_i r' off p' e
   rw [e] at r
   obtain ⟨oc,h1,hv⟩:=r
   simp only [execOp,hv]
   exact dK _
  ·rename_i r' es i off p' e
   rw [e] at r
   obtain ⟨oc,g,n,cp,h1,h2,hv⟩:=r
   simp only [execOp,hv]
   exact dK _
  ·rename_i g xs e
   rw [e] at r
   obtain ⟨cs,⟨_,ds,h1,_⟩,hv⟩:=r
   rw [h1] at hv
   simp only [execOp,hv]
   exact dK _
  ·exact h.elim
 case h_8 t x =>
  obtain ⟨agg,p,rfl,hp,hl⟩:=(aAa hc).resolve_right (by rintro ⟨n,p,rfl,_⟩; cases hq)
  obtain ⟨s,hK,hs⟩:=aDg (C:=C) hl h
  refine ⟨s,hK,fun a w hw ho=>?_⟩
  obtain ⟨v,hv,hr,B,hB,hw'⟩:=hs w _ hw (eG ho (x:=x) (by simp [Op.operands]) hp)
  refine ⟨v,by simp only [execOp,aB]; rw [hv]; rfl,hr,B,hB,(fun h=>by cases h),fun w' hk=>?_⟩
  simp only [execOp,aB]; rw [hw' w' hk]; rfl
 case h_9 st x f =>
  unfold aE9 at hc
  split at hc
  ·rename_i fs p hu hp
   split at hc
   ·rename_i fd hf
    split at hc
    ·rename_i n hn
     injection hc with hc
     subst hc
     simp only [eH,aA] at hn
     obtain ⟨inf,hi,hsz⟩:=hn
     exact fin fun a w hw ho=>dX (aHO hu hf hi (by omega) _) fun _=>dK _
    ·cases hc
   ·cases hc
  ·cases hc
 case h_10 t x i=>exact fin fun a w hw ho=>dX (aIJ _ _ _) fun _=>dK _
 case h_11 t x i =>
  unfold aFa at hc
  split at hc
  ·injection hc with hc; subst hc; cases hq
  ·cases hc
 case h_12 x i=>exact fin fun a w hw ho=>dX (aE7 _ _) fun _=>dK _
 case h_13 src dst' x =>
  unfold yH at hc
  split at hc
  ·split at hc
   ·injection hc with hc; subst hc; cases hq
   ·cases hc
  ·injection hc with hc; subst hc; cases hq
  ·cases hc
 case h_14 t x lo hi =>
  unfold aFr at hc
  split at hc
  ·rename_i p l r hu hp hl hr
   exact fin fun a w hw ho=>dX (aCp hu (.inl rfl) _ _ _) fun _=>dK _
  ·rename_i e p l r hu hp hl hr
   exact fin fun a w hw ho=>dX (aCp hu (.inr ⟨e,rfl⟩) _ _ _) fun _=>dK _
  ·cases hc
 case h_15 t x lo hi m =>
  unfold aBe at hc
  split at hc
  ·split at hc
   ·split at hc
    ·obtain ⟨n,hn,hc⟩:=aA.1 hc
     subst hc; cases hq
    ·cases hc
   ·cases hc
  ·cases hc
 case h_16 g caps =>
  obtain ⟨ps,hps,rfl⟩:=aA.1 hc
  cases hq
 case h_17 t xs ts =>
  obtain ⟨ps,hps,rfl⟩:=aA.1 hc
  simp [s3] at hq
 case h_18 xs ts =>
  unfold aBi at hc
  split at hc
  ·rename_i t x
   have fl:∀ d,c.P.underlying t=some d->(d=.string\/∃ e,d=.slice e)->∀ a:Act,jS c.P (execOp a.eval { dst:=dst,op:=.call { callee:=.builtin .len,args:=#[x],argTypes:=#[t] },type:=ty,pos:=pos,after:=after,guard:=guard }):=by
    intro d hu hd a w r w1 hr
    simp only [execOp,resolve,aB,aH,aC,invoke,builtin,aS,aW,a7] at hr ⊢
    exact (dX (aNJ hu hd _) fun _=>dK _:jS c.P _) w r w1 (by simpa [aB] using hr) |>.imp id fun h w'=>by simpa [aB] using h w'
   split at hc
   ·rename_i p hu hp
    exact fin fun a w hw ho=>fl _ hu (.inl rfl) a
   ·rename_i e p hu hp
    exact fin fun a w hw ho=>fl _ hu (.inr ⟨e,rfl⟩) a
   ·cases hc
  ·cases hc
 case h_19 xs ts|h_20 xs ts =>
  unfold wT at hc
  split at hc
  ·split at hc
   ·injection hc with hc; subst hc; cases hq
   ·cases hc
  ·cases hc
 case h_21 f xs ts =>
  unfold rW at hc
  split at hc
  ·split at hc
   ·injection hc with hc
    simp only [if_true] at hc
    subst hc; cases hq
   ·cases hc
  ·cases hc
 case h_22=>cases hc
end
def rM:List Nat->List Ob->List Ob
 | [],o=>o
 | r :: rs,o=>rM rs (o.set r .dead)
def rY (o0:List Ob):List Nat->List Ob->List Ob
 | [],o=>o
 | r :: rs,o=>rY o0 rs (match o0[r]? with
  | some ob=>o.set r ob
  | none=>o)
def aBv (R:List Nat) (C:List OC):List OC:=C.mapIdx fun j oc=>if j∈R then { oc with fp:=[] } else oc
def uE (C:List OC) (R:List Nat) (C':List OC):List OC:=C'.mapIdx fun j oc=>if j∈R then (C[j]?).getD oc else oc
def vX (R:List Nat):SV->Bool
 | .own r=>R.contains r
 | .ptr r _ _=>R.contains r
 | .el r _ _ _ _=>R.contains r
 | _=>false
def eqO:Option Nat->Nat->Bool
 | none,_=>false
 | some d,t=>d == t
theorem aMC (dst:Option Nat) (t:Nat):eqO dst t=false↔dst≠some t:=by
 cases dst with
 | none=>simp [eqO]
 | some d=>simp [eqO]
def aPz (t:Nat):List Nat->Bool
 | []=>false
 | k :: d=>if k=t then true else aPz t d
def qP (R:List Nat) (dst:Option Nat) (e0:i8):List Nat->i8->i8
 | _,[]=>[]
 | d,(t,_) :: r=>if vX R (look e0 t) && !eqO dst t then (if aPz t d=true then qP R dst e0 (t :: d) r else (t,look e0 t) :: qP R dst e0 (t :: d) r) else qP R dst e0 (t :: d) r
theorem aAi:∀ (R:List Nat) (o:List Ob) (j:Nat),(rM R o)[j]?=if j∈R then (o[j]?).map (fun _=>Ob.dead) else o[j]?
 | [],o,j=>by simp [rM]
 | r :: rs,o,j=>by
  rw [rM,aAi rs]
  by_cases e:r=j
  ·subst e
   have hs:(o.set r Ob.dead)[r]?=(o[r]?).map fun _=>Ob.dead:=by
    rw [List.getElem?_set]
    by_cases h:r < o.length
    ·simp [h]
    ·simp [h]
   by_cases h:r∈rs
   ·simp only [h,if_true,hs,aF,true_or,Option.map_map]; rfl
   ·simp only [h,if_false,hs,aF,true_or,if_true]
  ·have hs:(o.set r Ob.dead)[j]?=o[j]?:=by rw [List.getElem?_set,if_neg e]
   have:(j∈r :: rs)↔j∈rs:=⟨fun h=>(aF.1 h).resolve_left fun h=>e h.symm,fun h=>aL _ h⟩
   simp only [hs,this]
theorem aAc (o0:List Ob):∀ (R:List Nat) (o:List Ob) (j:Nat),(∀ r∈R,r < o.length/\r < o0.length)->(rY o0 R o)[j]?=if j∈R then o0[j]? else o[j]?
 | [],o,j,_=>by simp [rY]
 | r :: rs,o,j,hR=>by
  obtain ⟨h1,h2⟩:=hR r (by simp)
  obtain ⟨ob,hob⟩:∃ ob,o0[r]?=some ob:=⟨o0[r],List.getElem?_eq_getElem h2⟩
  rw [rY]
  simp only [hob]
  rw [aAc o0 rs _ j (fun q hq=>by have:=hR q (by simp [hq]); simpa using this)]
  by_cases e:r=j
  ·subst e
   by_cases h:r∈rs
   ·simp only [h,if_true,aF,true_or]
   ·simp only [h,if_false,aF,true_or,if_true,List.getElem?_set,h1,hob]
  ·have hs:(o.set r ob)[j]?=o[j]?:=by rw [List.getElem?_set,if_neg e]
   have:(j∈r :: rs)↔j∈rs:=⟨fun h=>(aF.1 h).resolve_left fun h=>e h.symm,fun h=>aL _ h⟩
   simp only [hs,this]
theorem aDX (o0:List Ob):∀ (R:List Nat) (o:List Ob),(rY o0 R o).length=o.length
 | [],o=>rfl
 | r :: rs,o=>by
  rw [rY,aDX o0 rs]
  split<;>simp
theorem aDW:∀ (R:List Nat) (o:List Ob),(rM R o).length=o.length
 | [],o=>rfl
 | r :: rs,o=>by rw [rM,aDW rs]; simp
theorem nR (R:List Nat) (C:List OC) (j:Nat):(aBv R C)[j]?=(C[j]?).map fun oc=>if j∈R then { oc with fp:=[] } else oc:=by
 rw [aBv,List.getElem?_mapIdx]
theorem rI (C:List OC) (R:List Nat) (C':List OC) (j:Nat):(uE C R C')[j]?=(C'[j]?).map fun oc=>if j∈R then (C[j]?).getD oc else oc:=by
 rw [uE,List.getElem?_mapIdx]
theorem pV {R:List Nat} {C:List OC} {b:Nat}:b∈fC (aBv R C)↔∃ r oc,r ∉ R/\C[r]?=some oc/\b∈oc.fp:=by
 rw [dA]
 constructor
 ·rintro ⟨r,oc,h1,h2⟩
  rw [nR,aA] at h1
  obtain ⟨od,h3,rfl⟩:=h1
  by_cases h:r∈R
  ·rw [if_pos h] at h2; cases h2
  ·rw [if_neg h] at h2; exact ⟨r,od,h,h3,h2⟩
 ·rintro ⟨r,oc,h,h1,h2⟩
  exact ⟨r,oc,by rw [nR,h1,aK,if_neg h],h2⟩
theorem sO (R:List Nat) (dst:Option Nat) (e0 e1:i8) (t:Nat):∀ (d:List Nat) (e:i8),look (qP R dst e0 d e ++ e1) t=look e1 t\/(look (qP R dst e0 d e ++ e1) t=look e0 t/\vX R (look e0 t)=true/\dst≠some t)
 | _,[]=>.inl rfl
 | d,(k,s) :: e=>by
  simp only [qP]
  split
  ·rename_i h
   rw [aD,Bool.not_eq_true',aMC] at h
   split
   ·exact sO R dst e0 e1 t (k :: d) e
   simp only [List.cons_append,look]
   by_cases hk:k=t
   ·subst hk; simp only [if_true]; exact .inr ⟨trivial,h.1,h.2⟩
   ·simp only [hk,if_false]; exact sO R dst e0 e1 t (k :: d) e
  ·exact sO R dst e0 e1 t (k :: d) e
def aGe (c:Ctx) (C:List OC) (R:List Nat) (w:World):Ctx :=
 { c with w0:=w,M0:=fun b=>c.M0 b\/∃ r∈R,∃ oc,C[r]?=some oc/\b∈oc.fp,g0:=fC (aBv R C) }
section
variable {c : Ctx} {s s' : St} {C C' : List OC} {a a' : Act} {w w' : World} {R : List Nat}
theorem aFg:Ms (aGe c C R w) (aBv R C)=Ms c C:=by
 funext b
 refine propext ⟨?_,?_⟩
 ·rintro ((h|⟨r,_,oc,h1,h2⟩)|h)
  ·exact .inl h
  ·exact .inr (dA.2 ⟨r,oc,h1,h2⟩)
  ·obtain ⟨r,oc,_,h1,h2⟩:=pV.1 h
   exact .inr (dA.2 ⟨r,oc,h1,h2⟩)
 ·rintro (h|h)
  ·exact .inl (.inl h)
  ·obtain ⟨r,oc,h1,h2⟩:=dA.1 h
   by_cases hr:r∈R
   ·exact .inl (.inr ⟨r,hr,oc,h1,h2⟩)
   ·exact .inr (pV.2 ⟨r,oc,hr,h1,h2⟩)
theorem gK.move {M:Nat->Prop} {sv:SV} {v:Value} (h:∀ r oc,jZ r sv=true->C[r]?=some oc->C'[r]?=some oc) (hv:gK w M C sv v):gK w M C' sv v:=by
 cases sv with
 | own r=>obtain ⟨oc,h1,h2⟩:=hv; exact ⟨oc,h r oc (by simp [jZ]) h1,h2⟩
 | ptr r off p=>obtain ⟨oc,h1,h2⟩:=hv; exact ⟨oc,h r oc (by simp [jZ]) h1,h2⟩
 | el r es i off p=>obtain ⟨oc,g,n,cp,h1,h2⟩:=hv; exact ⟨oc,g,n,cp,h r oc (by simp [jZ]) h1,h2⟩
 | vw r=>obtain ⟨oc,cs,h1,h2⟩:=hv; exact ⟨oc,cs,h r oc (by simp [jZ]) h1,h2⟩
 | win r es lo=>obtain ⟨oc,g,n,cp,h1,h2⟩:=hv; exact ⟨oc,g,n,cp,h r oc (by simp [jZ]) h1,h2⟩
 | _=>exact hv
theorem dN.move {M:Nat->Prop} {sv:SV} {v:Value} (h:∀ r oc,fW r sv=true->C[r]?=some oc->C'[r]?=some oc) (hv:dN w M C sv v):dN w M C' sv v:=by
 cases sv with
 | tup xs =>
  obtain ⟨vs,k1,k2,k3⟩:=hv
  refine ⟨vs,k1,k2,fun i sx u hi hu=>gK.move (fun r oc hr hc=>h r oc ?_ hc) (k3 i sx u hi hu)⟩
  simp only [fW,a8]
  exact ⟨sx,aP hi,hr⟩
 | own r=>exact gK.move (w:=w) (M:=M) (sv:=.own r) (v:=v) (fun r' oc hr hc=>h r' oc (by simpa [fW] using hr) hc) hv
 | ptr r off p=>exact gK.move (w:=w) (M:=M) (sv:=.ptr r off p) (v:=v) (fun r' oc hr hc=>h r' oc (by simpa [fW] using hr) hc) hv
 | el r es i off p=>exact gK.move (w:=w) (M:=M) (sv:=.el r es i off p) (v:=v) (fun r' oc hr hc=>h r' oc (by simpa [fW] using hr) hc) hv
 | win r es lo=>exact gK.move (w:=w) (M:=M) (sv:=.win r es lo) (v:=v) (fun r' oc hr hc=>h r' oc (by simpa [fW] using hr) hc) hv
 | vw r=>exact gK.move (w:=w) (M:=M) (sv:=.vw r) (v:=v) (fun r' oc hr hc=>h r' oc (by simpa [fW] using hr) hc) hv
 | _=>exact hv
theorem aMN (hr:Rel c s C a w) (R:List Nat):Rel (aGe c C R w) ⟨fU R s.e,rM R s.o⟩ (aBv R C) a w:=by
 have hn:=dS.1 hr.wd.nodup
 refine ⟨hr.tmps,hr.defers,fun t=>?_,?_,hr.fix⟩
 ·rw [aFg,mI]
  split
  ·trivial
  ·rename_i h
   refine dN.move (fun r oc hra hc=>?_) (hr.env t)
   rw [nR,hc,aK]
   have:r ∉ R:=fun hm=>h (a8.2 ⟨r,hm,hra⟩)
   rw [if_neg this]
 ·refine { len:=by rw [aDW,aBv,bC]; exact hr.wd.len,obs:=?_,tags:=?_,nodup:=?_,lt:=?_,apart:=?_,mine:=fun b hb=>.inr hb,os:=rfl,tape:=rfl,output:=rfl,size:=aN _,kept:=fun b _ _=>rfl,m0:=?_,glob:=by rw [aFg]; exact hr.wd.glob }
  ·intro r ob oc h1 h2
   rw [aFg]
   rw [aAi] at h1
   rw [nR,aA] at h2
   obtain ⟨od,h3,rfl⟩:=h2
   by_cases h:r∈R
   ·rw [if_pos h,aA] at h1
    obtain ⟨_,_,rfl⟩:=h1
    rw [if_pos h]
    rfl
   ·rw [if_neg h] at h1 ⊢
    exact hr.wd.obs r ob od h1 h3
  ·intro q r v h1
   rw [aAi] at h1
   have h1':s.o[q]?=some (.tag r v):=by
    split at h1
    ·rw [aA] at h1; obtain ⟨_,_,h⟩:=h1; cases h
    ·exact h1
   obtain ⟨oc,h2,h3⟩:=hr.wd.tags q r v h1'
   refine ⟨_,by rw [nR,h2,aK],?_⟩
   split<;>exact h3
  ·refine dS.2 ⟨fun j od hj=>?_,fun j i od oe hne hj hi b hb hb'=>?_⟩
   ·rw [nR,aA] at hj
    obtain ⟨oc,h1,rfl⟩:=hj
    split
    ·exact bH
    ·exact hn.1 j oc h1
   ·rw [nR,aA] at hj hi
    obtain ⟨o1,h1,rfl⟩:=hj
    obtain ⟨o2,h2,rfl⟩:=hi
    split at hb
    ·cases hb
    ·split at hb'
     ·cases hb'
     ·exact hn.2 j i o1 o2 hne h1 h2 b hb hb'
  ·intro b hb
   obtain ⟨r,oc,_,h1,h2⟩:=pV.1 hb
   exact hr.wd.lt b (dA.2 ⟨r,oc,h1,h2⟩)
  ·intro b hb
   obtain ⟨r,oc,hm,h1,h2⟩:=pV.1 hb
   rintro (h|⟨q,hq,od,h3,h4⟩)
   ·exact hr.wd.apart b (dA.2 ⟨r,oc,h1,h2⟩) h
   ·exact hn.2 r q oc od (fun e=>hm (by rw [e]; exact hq)) h1 h3 b h2 h4
  ·rintro b (h|⟨q,hq,od,h3,h4⟩)
   ·have:=hr.wd.m0 b h
    have:=hr.wd.size
    show b < w.heap.size
    omega
   ·exact hr.wd.lt b (dA.2 ⟨q,od,h3,h4⟩)
theorem gY.frame {M M':Nat->Prop} {ob:Ob} {oc:OC} (hs:w.heap.size<=w'.heap.size) (hM:∀ b,b < w.heap.size->M' b->M b) (hk:∀ b,b < w.heap.size->(b∈oc.fp\/¬ M b)->w'.heap[b]?=w.heap[b]?) (h:gY w M ob oc):gY w' M' ob oc:=by
 cases ob with
 | dead=>exact h
 | tag r v=>exact h
 | val x =>
  obtain ⟨cs,h1,h2⟩:=h
  exact ⟨cs,eC hs hM x cs oc.fp hk h1,h2⟩
 | box x =>
  obtain ⟨cs,fps,h1,h2,h3⟩:=h
  exact ⟨cs,fps,h1.frame (hk _ h1.lt (.inl (by rw [h3]; simp))),eC hs hM x cs fps (fun b hb hx=>hk b hb (hx.imp (fun hx=>by rw [h3]; simp [hx]) id)) h2,h3⟩
 | mp kvs =>
  obtain ⟨es,cl,h1,h2,h3,h4⟩:=h
  exact ⟨es,cl,(hk _ (aFs h1) (.inl (by rw [h4]; simp))).trans h1,h2,h3,h4⟩
theorem aMK (hr:Rel c s C a w) (hR:∀ r∈R,r < s.o.length) (hT:∀ q∈R,∀ r v,s.o[q]?=some (.tag r v)->r∈R) {dst:Option Nat} (h:Rel (aGe c C R w) s' C' a' w') (hd:∀ r∈R,s'.o[r]?=some .dead) (hn:∀ r∈R,qS r s'.o=true) (ht:∀ t,dst≠some t->a'.tmps.getD t Go.undef=a.tmps.getD t Go.undef) :
  Rel c ⟨qP R dst s.e [] s.e ++ fU R s'.e,rY s.o R s'.o⟩ (uE C R C') a' w'/\∀ b,okB w c C R b->w'.heap[b]?=w.heap[b]?/\okB w' c (uE C R C') R b:=by
 have hnC:=dS.1 hr.wd.nodup
 have hnC':=dS.1 h.wd.nodup
 have hlen:=hr.wd.len
 have hlen':=h.wd.len
 -- the hidden objects' places
 have hat:∀ r∈R,∃ oc od,C[r]?=some oc/\C'[r]?=some od/\(uE C R C')[r]?=some oc:=by
  intro r hm
  have h1:=hR r hm
  have h2:=cV (hd r hm)
  obtain ⟨oc,hoc⟩:∃ oc,C[r]?=some oc:=⟨C[r]'(by omega),List.getElem?_eq_getElem _⟩
  obtain ⟨od,hod⟩:∃ od,C'[r]?=some od:=⟨C'[r]'(by omega),List.getElem?_eq_getElem _⟩
  exact ⟨oc,od,hoc,hod,by rw [rI,hod,aK,if_pos hm,hoc]; rfl⟩
 have hdead:∀ r∈R,∀ od,C'[r]?=some od->od.fp=[]:=fun r hm od h1=>h.wd.obs r .dead od (hd r hm) h1
 have hcase:∀ (j:Nat) (od:OC),(uE C R C')[j]?=some od->(j∈R/\C[j]?=some od)\/(j ∉ R/\C'[j]?=some od):=by
  intro j od hj
  by_cases hm:j∈R
  ·obtain ⟨oc,_,h1,_,h3⟩:=hat j hm
   rw [h3] at hj
   injection hj with hj
   subst hj
   exact .inl ⟨hm,h1⟩
  ·rw [rI,aA] at hj
   obtain ⟨o1,h1,h2⟩:=hj
   rw [if_neg hm] at h2
   subst h2
   exact .inr ⟨hm,h1⟩
 have hmem:∀ b,b∈fC (uE C R C')↔(∃ r∈R,∃ oc,C[r]?=some oc/\b∈oc.fp)\/b∈fC C':=by
  intro b
  constructor
  ·intro hb
   obtain ⟨j,od,hj,hb⟩:=dA.1 hb
   rcases hcase j od hj with ⟨hm,h1⟩|⟨_,h1⟩
   ·exact .inl ⟨j,hm,od,h1,hb⟩
   ·exact .inr (dA.2 ⟨j,od,h1,hb⟩)
  ·rintro (⟨r,hm,oc,h1,hb⟩|hb)
   ·obtain ⟨oc',_,h2,_,h3⟩:=hat r hm
    rw [h1] at h2
    injection h2 with h2
    subst h2
    exact dA.2 ⟨r,oc,h3,hb⟩
   ·obtain ⟨j,od,hj,hb⟩:=dA.1 hb
    by_cases hm:j∈R
    ·rw [hdead j hm od hj] at hb; cases hb
    ·exact dA.2 ⟨j,od,by rw [rI,hj,aK,if_neg hm],hb⟩
 have hMs:Ms c (uE C R C')=Ms (aGe c C R w) C':=by
  funext b
  refine propext ⟨?_,?_⟩
  ·rintro (h1|h1)
   ·exact .inl (.inl h1)
   ·rcases (hmem b).1 h1 with h1|h1
    ·exact .inl (.inr h1)
    ·exact .inr h1
  ·rintro ((h1|h1)|h1)
   ·exact .inl h1
   ·exact .inr ((hmem b).2 (.inl h1))
   ·exact .inr ((hmem b).2 (.inr h1))
 have hsz:w.heap.size<=w'.heap.size:=h.wd.size
 have hold:∀ b,b∈fC C'->w.heap.size<=b\/∃ r oc,r ∉ R/\C[r]?=some oc/\b∈oc.fp:=fun b hb=>(h.wd.mine b hb).imp id pV.1
 have hkeep:∀ b,okB w c C R b->w'.heap[b]?=w.heap[b]?:=by
  rintro b ⟨hb,hx⟩
  refine h.wd.kept b hb fun hg=>?_
  obtain ⟨q,od,hq,h1,h2⟩:=pV.1 hg
  rcases hx with hx|⟨r,hm,oc,h3,h4⟩
  ·exact hx (.inr (dA.2 ⟨q,od,h1,h2⟩))
  ·exact hnC.2 q r od oc (fun e=>hq (by rw [e]; exact hm)) h1 h3 b h2 h4
 have hMle:∀ b,b < w.heap.size->Ms c (uE C R C') b->Ms c C b:=by
  rintro b hb (h1|h1)
  ·exact .inl h1
  ·rcases (hmem b).1 h1 with ⟨r,_,oc,h2,h3⟩|h1
   ·exact .inr (dA.2 ⟨r,oc,h2,h3⟩)
   ·rcases hold b h1 with h2|⟨r,oc,_,h2,h3⟩
    ·omega
    ·exact .inr (dA.2 ⟨r,oc,h2,h3⟩)
 refine ⟨⟨h.tmps,h.defers,fun t=>?_,?_,h.fix⟩,fun b hb=>⟨hkeep b hb,by have:=hb.1; omega,?_⟩⟩
 ·rcases sO R dst s.e (fU R s'.e) t [] s.e with e|⟨e,hb,hdt⟩
  ·simp only [e,mI]
   split
   ·trivial
   ·rename_i hk
    rw [hMs]
    refine dN.move (fun r oc hra hc=>?_) (h.env t)
    have:r ∉ R:=fun hm=>hk (a8.2 ⟨r,hm,hra⟩)
    rw [rI,hc,aK,if_neg this]
  ·simp only [e,ht t hdt]
   have hv:=hr.env t
   generalize look s.e t=sv at hb hv ⊢
   have back:∀ r oc,r∈R->C[r]?=some oc->(uE C R C')[r]?=some oc:=fun r oc hm h1=>by
    obtain ⟨oc',_,h2,_,h3⟩:=hat r hm
    rw [h1] at h2
    injection h2 with h2
    subst h2
    exact h3
   cases sv with
   | own r =>
    simp only [vX,aO] at hb
    obtain ⟨oc,h1,h2⟩:=hv
    exact ⟨oc,back r oc hb h1,h2⟩
   | ptr r off p =>
    simp only [vX,aO] at hb
    obtain ⟨oc,h1,h2⟩:=hv
    exact ⟨oc,back r oc hb h1,h2⟩
   | el r es i off p =>
    simp only [vX,aO] at hb
    obtain ⟨oc,g,n,cp,h1,h2⟩:=hv
    exact ⟨oc,g,n,cp,back r oc hb h1,h2⟩
   | _=>cases hb
 ·refine { len:=by rw [aDX,uE,bC]; exact hlen',obs:=?_,tags:=?_,nodup:=?_,lt:=?_,apart:=?_,mine:=?_,os:=h.wd.os.trans hr.wd.os,tape:=h.wd.tape.trans hr.wd.tape,output:=h.wd.output.trans hr.wd.output,size:=Nat.le_trans hr.wd.size hsz,kept:=?_,m0:=hr.wd.m0,glob:=by rw [hMs]; exact h.wd.glob }
  ·intro r ob oc h1 h2
   rw [aAc s.o R s'.o r (fun q hq=>⟨cV (hd q hq),hR q hq⟩)] at h1
   rcases hcase r oc h2 with ⟨hm,h3⟩|⟨hm,h3⟩
   ·rw [if_pos hm] at h1
    refine gY.frame hsz hMle (fun b hb hx=>hkeep b ⟨hb,?_⟩) (hr.wd.obs r ob oc h1 h3)
    exact hx.symm.imp id fun hx=>⟨r,hm,oc,h3,hx⟩
   ·rw [if_neg hm] at h1
    rw [hMs]
    exact h.wd.obs r ob oc h1 h3
  ·intro q r v h1
   rw [aAc s.o R s'.o q (fun q hq=>⟨cV (hd q hq),hR q hq⟩)] at h1
   by_cases hm:q∈R
   ·rw [if_pos hm] at h1
    obtain ⟨oc,h2,h3⟩:=hr.wd.tags q r v h1
    obtain ⟨oc',_,h4,_,h5⟩:=hat r (hT q hm r v h1)
    rw [h2] at h4
    injection h4 with h4
    subst h4
    exact ⟨oc,h5,h3⟩
   ·rw [if_neg hm] at h1
    obtain ⟨oc,h2,h3⟩:=h.wd.tags q r v h1
    have hrm:r ∉ R:=fun hrm=>zJ (hn r hrm) h1 rfl
    exact ⟨oc,by rw [rI,h2,aK,if_neg hrm],h3⟩
  ·refine dS.2 ⟨fun j od hj=>?_,fun j i od oe hne hj hi b hb hb'=>?_⟩
   ·rcases hcase j od hj with ⟨_,h1⟩|⟨_,h1⟩
    ·exact hnC.1 j od h1
    ·exact hnC'.1 j od h1
   ·rcases hcase j od hj with ⟨m1,h1⟩|⟨m1,h1⟩<;>rcases hcase i oe hi with ⟨m2,h2⟩|⟨m2,h2⟩
    ·exact hnC.2 j i od oe hne h1 h2 b hb hb'
    ·exact h.wd.apart b (dA.2 ⟨i,oe,h2,hb'⟩) (.inr ⟨j,m1,od,h1,hb⟩)
    ·exact h.wd.apart b (dA.2 ⟨j,od,h1,hb⟩) (.inr ⟨i,m2,oe,h2,hb'⟩)
    ·exact hnC'.2 j i od oe hne h1 h2 b hb hb'
  ·intro b hb
   rcases (hmem b).1 hb with ⟨r,_,oc,h1,h2⟩|h1
   ·have:=hr.wd.lt b (dA.2 ⟨r,oc,h1,h2⟩); omega
   ·exact h.wd.lt b h1
  ·intro b hb
   rcases (hmem b).1 hb with ⟨r,_,oc,h1,h2⟩|h1
   ·exact hr.wd.apart b (dA.2 ⟨r,oc,h1,h2⟩)
   ·exact fun hm=>h.wd.apart b h1 (.inl hm)
  ·intro b hb
   rcases (hmem b).1 hb with ⟨r,_,oc,h1,h2⟩|h1
   ·exact hr.wd.mine b (dA.2 ⟨r,oc,h1,h2⟩)
   ·rcases hold b h1 with h2|⟨r,oc,_,h2,h3⟩
    ·have:=hr.wd.size; exact .inl (by omega)
    ·exact hr.wd.mine b (dA.2 ⟨r,oc,h2,h3⟩)
  ·intro b hb hg
   have hsw:=hr.wd.size
   rw [h.wd.kept b (show b < w.heap.size by omega) fun hm=>?_]
   ·exact hr.wd.kept b hb hg
   ·obtain ⟨r,oc,_,h1,h2⟩:=pV.1 hm
    rcases hr.wd.mine b (dA.2 ⟨r,oc,h1,h2⟩) with h3|h3
    ·omega
    ·exact hg h3
 ·rcases hb.2 with hx|⟨r,hm,oc,h1,h2⟩
  ·exact .inl fun hm=>hx (hMle b hb.1 hm)
  ·obtain ⟨oc',_,h3,_,h5⟩:=hat r hm
   rw [h1] at h3; injection h3 with h3; subst h3
   exact .inr ⟨r,hm,oc,h5,h2⟩
end
inductive MP where
 | done
 | q (i:Nat) (m:MOp) (k:MP)
 | e (i:Nat) (m:MOp) (k:MP)
 | br (x y:MP)
inductive PS where
 | done
 | q (i:Nat) (k:PS)
 | e (i:Nat) (k:PS)
 | br (x y:PS)
def PS.tops:PS->List Nat
 | .e i _=>[i]
 | .br x y=>x.tops ++ y.tops
 | _=>[]
def PS.depth:PS->Nat
 | .done=>0
 | .q _ k=>k.depth + 1
 | .e _ k=>k.depth + 1
 | .br x y=>max x.depth y.depth
def aKu:Nat->List Nat->Option (PS×List Nat)
 | 0,_=>none
 | _ + 1,0 :: r=>some (.done,r)
 | n + 1,1 :: i :: r=>(aKu n r).map fun p=>(.q i p.1,p.2)
 | n + 1,2 :: i :: r=>(aKu n r).map fun p=>(.e i p.1,p.2)
 | n + 1,3 :: r=>(aKu n r).bind fun p=>(aKu n p.2).map fun u=>(.br p.1 u.1,u.2)
 | _,_=>none
def wN (s:St) (m:MOp):List Nat:=aCx (look s.e) m.op
def aBW:List Nat->List Nat->List Nat
 | [],R=>R
 | x :: xs,R=>if R.contains x then aBW xs R else x :: aBW xs R
theorem n8 {r:Nat}:∀ {xs R:List Nat},(r∈xs\/r∈R)->r∈aBW xs R
 | [],R,h=>h.resolve_left (by simp)
 | x :: xs,R,h=>by
  unfold aBW
  split
  ·rename_i hc
   rcases h with h|h
   ·rcases aF.1 h with rfl|h
    ·exact n8 (.inr (aO.1 hc))
    ·exact n8 (.inl h)
   ·exact n8 (.inr h)
  ·rcases h with h|h
   ·rcases aF.1 h with rfl|h
    ·exact List.mem_cons_self ..
    ·exact aL _ (n8 (.inl h))
   ·exact aL _ (n8 (.inr h))
def s5 (R:List Nat):Nat->List Ob->List Nat
 | _,[]=>[]
 | n,.tag r _ :: o=>if R.contains r then n :: s5 R (n + 1) o else s5 R (n + 1) o
 | n,_ :: o=>s5 R (n + 1) o
theorem aCf:∀ (n:Nat) (o:List Ob),s5 [] n o=[]
 | _,[]=>rfl
 | n,ob :: o=>by
  cases ob<;>simp [s5,aCf (n + 1) o]
def xO (R:List Nat) (o:List Ob):List Nat:=aBW (s5 R 0 o) R
theorem aNf {r:Nat} {R:List Nat} {o:List Ob} (h:r∈R):r∈xO R o:=n8 (.inr h)
def aAv (R:List Nat) (o:List Ob) (o':List Ob):Bool:=R.all fun r=>decide (r < o.length) && (match o[r]? with
 | some (.tag q _)=>R.contains q
 | _=>true) && (match o'[r]? with
 | some .dead=>true
 | _=>false) && qS r o'
def iH (P:PG) (un:List Nat):MP->List Nat->St->(St->Prop)->Prop
 | .done,_,s,K=>K s
 | .q _ m k,R,s,K=>fI P [m] s fun s'=>iH P un k (aBW (wN s m) R) s' K
 | .e i m k,R,s,K=>if un.contains i then fI P [m] s fun s'=>iH P un k [] s' K
   else fI P [m] ⟨fU (xO R s.o) s.e,rM (xO R s.o) s.o⟩ fun s'=>aAv (xO R s.o) s.o s'.o=true/\iH P un k (xO R s.o) ⟨qP (xO R s.o) m.dst s.e [] s.e ++ fU (xO R s.o) s'.e,rY s.o (xO R s.o) s'.o⟩ K
 | .br x y,R,s,K=>iH P un x R s K/\iH P un y R s K
def aMA (md:Region.Mode) (ops:Array Oper) (un:List Nat) (listed:Array Bool) (i:Nat) (mem:Bool):Bool :=
 Region.free md ops listed i && (!mem || (List.range ops.size).all fun j=>j == i || listed.getD j true || !un.contains j || match ops[j]? with
  | some oj=>oj.after.any fun e=>Region.binds md e && e.on == i
  | none=>true)
def chk (P:Program) (n:Nat×Nat) (md:Region.Mode) (ops:Array Oper) (un:List Nat) (pm top:Bool) (listed:Array Bool):PS->Bool
 | .done=>top && (Region.ready md ops listed).isEmpty
 | .q i k=>top && pm && (Region.ready md ops listed).contains i && aMA md ops un listed i (match (ops[i]?).bind (pN P n true ops) with
   | some m=>aAT m.op
   | none=>true) && chk P n md ops un pm true (listed.setIfInBounds i true) k
 | .e i k=>(!top || Region.ready md ops listed == [i]) && (pm || un.contains i) && chk P n md ops un (pm && !un.contains i) true (listed.setIfInBounds i true) k
 | .br x y=>(!top || Region.ready md ops listed == x.tops ++ y.tops) && chk P n md ops un pm false listed x && chk P n md ops un pm false listed y
def mkP (P:Program) (n:Nat×Nat) (ops:Array Oper):PS->Option MP
 | .done=>some .done
 | .q i k=>match (ops[i]?).bind (pN P n true ops),mkP P n ops k with
  | some m,some k'=>if s3 m.op then some (.q i m k') else none
  | _,_=>none
 | .e i k=>match (ops[i]?).bind (pN P n false ops),mkP P n ops k with
  | some m,some k'=>some (.e i m k')
  | _,_=>none
 | .br x y=>match mkP P n ops x,mkP P n ops y with
  | some x',some y'=>some (.br x' y')
  | _,_=>none
section
variable {P : Program} {md : Region.Mode} {ops : Array Oper} {x : Nat -> Bool} {Q : Exit -> Act -> World -> Prop}
def wpK (P:Program) (md:Region.Mode) (ops:Array Oper) (x:Nat->Bool) (Q:Exit->Act->World->Prop) (A:Nat->Prop):Nat->Array Bool->Act->World->Prop
 | 0,listed,a,w=>Region.ready md ops listed=[]/\Q .normal a w
 | fuel + 1,listed,a,w =>
  (Region.ready md ops listed=[]->Q .normal a w) /\
  ∀ i∈Region.ready md ops listed,wpOp P ops Q i (fun a' w'=>(x i=true->∀ b,A b->w'.heap[b]?=w.heap[b]?)/\wpK P md ops x Q A fuel (listed.setIfInBounds i true) a' w') a w
theorem xG {A:Nat->Prop}:∀ (fuel:Nat) (listed:Array Bool) (a:Act) (w:World),wpK P md ops x Q A fuel listed a w->wpAny P md ops Q fuel listed a w
 | 0,_,_,_,h=>h
 | fuel + 1,_,_,_,h=>⟨h.1,fun i hi=>wpOp_mono (fun a' w' h'=>xG fuel _ a' w' h'.2) (h.2 i hi)⟩
theorem aGK {A B:Nat->Prop} (hAB:∀ b,B b->A b):∀ (fuel:Nat) (listed:Array Bool) (a:Act) (w:World),wpK P md ops x Q A fuel listed a w->wpK P md ops x Q B fuel listed a w
 | 0,_,_,_,h=>h
 | fuel + 1,_,_,_,h=>⟨h.1,fun i hi=>wpOp_mono (fun a' w' h'=>⟨fun hx b hb=>h'.1 hx b (hAB b hb),aGK hAB fuel _ a' w' h'.2⟩) (h.2 i hi)⟩
theorem aLz {A:Nat->Prop} {listed:Array Bool} {a:Act} {w:World} (hr:Region.ready md ops listed=[]) (h:Q .normal a w):∀ fuel,wpK P md ops x Q A fuel listed a w
 | 0=>⟨hr,h⟩
 | _ + 1=>⟨fun _=>h,by rw [hr]; simp⟩
theorem aKb {A:Nat->Prop} {mem:Bool} {w0:World} {i:Nat} {oi:Oper} {v:Value} (hi:ops[i]?=some oi) (hsel:∀ (j:Nat) (o:Oper) cs b,ops[j]?=some o->o.op≠.select cs b)
  (hQ:∀ c a w,Q (.panic c) (a.put oi.dst v) w->Q (.panic c) a w) :
  ∀ (fuel:Nat) (listed:Array Bool) (a:Act) (w:World),
   (∀ j oj,ops[j]?=some oj->j≠i->listed.getD j true=false->(∀ e∈oj.after,Region.binds md e=true->e.on≠i)->oi.apart ops oj=true/\(mem=true->x j=true)) ->
   i∈Region.ready md ops listed->YieldsIf P ops (fun w'=>mem=true->∀ b,A b->w'.heap[b]?=w0.heap[b]?) oi v a->(mem=true->∀ b,A b->w.heap[b]?=w0.heap[b]?) ->
   wpK P md ops x Q A fuel (listed.setIfInBounds i true) (a.put oi.dst v) w->wpK P md ops x Q A (fuel + 1) listed a w:=by
 intro fuel
 induction fuel with
 | zero =>
  intro listed a w _ hr hy hS H
  refine ⟨fun h=>(by rw [h] at hr; cases hr),fun j hj=>?_⟩
  by_cases hji:j=i
  ·subst hji; exact hy.wpOp hi hS ⟨fun _ _ _=>rfl,H⟩
  ·have:=ready_mono hj hji
   rw [H.1] at this
   cases this
 | succ fuel ih =>
  intro listed a w hfree hr hy hS H
  refine ⟨fun h=>(by rw [h] at hr; cases hr),fun j hj=>?_⟩
  by_cases hji:j=i
  ·subst hji; exact hy.wpOp hi hS ⟨fun _ _ _=>rfl,H⟩
  ·have h1:=H.2 j (ready_mono hj hji)
   obtain ⟨hjun,oj,hoj,hall⟩:=mem_ready.1 hj
   have hnot:∀ e∈oj.after,Region.binds md e=true->e.on≠i:=fun e he hb heq=>by
    have h1:=hall e he hb
    have h0:=(mem_ready.1 hr).1
    rw [heq] at h1
    rcases Nat.lt_or_ge i listed.size with h'|h'
    ·simp [h'] at h0 h1; rw [h0] at h1; cases h1
    ·simp [Array.getElem?_eq_none h'] at h1
   obtain ⟨hap,hxj⟩:=hfree j oj hoj hji hjun hnot
   have h2:=wpOp_putIf hoj hap (fun cs b=>hsel i oi cs b hi) (fun cs b=>hsel j oj cs b hoj) hQ hy h1
   have hfree':∀ k ok,ops[k]?=some ok->k≠i->(listed.setIfInBounds j true).getD k true=false ->
     (∀ e∈ok.after,Region.binds md e=true->e.on≠i)->oi.apart ops ok=true/\(mem=true->x k=true):=fun k ok hk hki hun hno=>by
    refine hfree k ok hk hki ?_ hno
    by_cases hjk:j=k
    ·subst hjk; exact hjun
    ·rw [getD_set_ne true hjk] at hun; exact hun
   refine wpOp_mono (fun a' w' h3=>⟨h3.2.1,ih (listed.setIfInBounds j true) a' w' hfree' (ready_mono hr (Ne.symm hji)) h3.1 (fun hm b hb=>(h3.2.1 (hxj hm) b hb).trans (hS hm b hb)) ?_⟩) h2
   rw [Array.setIfInBounds_comm _ _ hji]
   exact h3.2.2
end
theorem aWT {P:Program} {o:Oper} {a:Act} {w:World} {K:Act->World->Prop} {Q:Exit->Act->World->Prop} (h:o.wp P a w K Q) :
  o.wp P a w (fun a' w'=>K a' w'/\∀ t,o.dst≠some t->a'.tmps.getD t Go.undef=a.tmps.getD t Go.undef) Q:=by
 have key:∀ (a1:Act) (v:Value),a1.tmps=a.tmps->∀ t,o.dst≠some t->(a1.put o.dst v).tmps.getD t Go.undef=a.tmps.getD t Go.undef:=by
  intro a1 v h1 t ht
  rw [<- h1]
  cases hd:o.dst with
  | none=>simp [Act.put]
  | some d =>
   rw [hd] at ht
   have:d≠t:=fun e=>ht (by rw [e])
   simp [Act.put,aG,Array.getElem?_setIfInBounds,this]
 unfold Oper.wp at *
 generalize (execOp a.eval o).run P w=r at *
 cases r with
 | ok n w' =>
  cases n<;>simp only [Oper.upon] at h ⊢<;>first
   | exact ⟨h,key _ _ rfl⟩
   | exact Calls.mono h (fun e w'' he=>by cases e<;>first|exact ⟨he,key _ _ rfl⟩|exact he)
   | exact Rows.mono h (fun _ _ he=>⟨he,key _ _ rfl⟩)
 | halt x w'=>cases x<;>simp only [Oper.upon] at h ⊢<;>exact h
theorem aJW {P:Program} {ops:Array Oper} {Q:Exit->Act->World->Prop} {i:Nat} {o:Oper} {K:Act->World->Prop} {a:Act} {w:World} (hi:ops[i]?=some o) (h:wpOp P ops Q i K a w) :
  wpOp P ops Q i (fun a' w'=>K a' w'/\∀ t,o.dst≠some t->a'.tmps.getD t Go.undef=a.tmps.getD t Go.undef) a w:=by
 unfold wpOp at *
 simp only [hi] at h ⊢
 split
 ·rename_i hw
  simp only [hw,if_true] at h
  exact h.imp aWT id
 ·rename_i hw
  simp only [hw,aE,if_false] at h
  refine ⟨h,fun t ht=>?_⟩
  cases hd:o.dst with
  | none=>simp [Act.put]
  | some d =>
   rw [hd] at ht
   have:d≠t:=fun e=>ht (by rw [e])
   simp [Act.put,aG,Array.getElem?_setIfInBounds,this]
section
variable {c : Ctx} {ops : Array Oper} {s : St} {C : List OC} {a : Act} {w : World}
theorem yF {Q:Exit->Act->World->Prop} {i:Nat} {o:Oper} {m:MOp} {K:St->Prop} (hi:ops[i]?=some o) (hm:pN c.P c.nn false ops o=some m) (hr:Rel c s C a w) (hx:fI c.G [m] s K) :
  wpOp c.P ops Q i (fun a' w'=>∃ s' C',K s'/\Rel c s' C' a' w') a w:=by
 have h:=kV (c:=c) (ops:=ops) (Q:=fun e a' w'=>e=.normal/\∃ s' C',K s'/\Rel c s' C' a' w') (K:=K) (fun s' C' a' w' h1 h2=>⟨rfl,s',C',h2,h1⟩) [o] [m] s C a w (by simp only [nA,hm]) hr hx
 unfold wpOp
 simp only [hi]
 simp only [wpList] at h
 split at h
 ·rename_i hw
  simp only [hw,if_true]
  rcases h with h|⟨_,h⟩
  ·left
   unfold Oper.wp at h ⊢
   generalize (execOp a.eval o).run c.P w=r at *
   cases r with
   | ok n w' =>
    cases n<;>simp only [Oper.upon] at h ⊢<;>first
     | exact h.2
     | exact Calls.mono h (fun e w'' he=>by
       cases e with
       | returned v=>exact he.2
       | panicked ch=>exact absurd he.1 (by simp)
       | outgrown=>obtain ⟨_,_,hh⟩:=he; exact absurd hh.1 (by simp))
     | exact Rows.mono h (fun _ _ he=>he.2)
   | halt x w'=>cases x<;>simp only [Oper.upon] at h ⊢<;>first|exact h.elim|exact absurd h.1 (by simp)
  ·obtain ⟨_,_,h⟩:=h
   exact absurd h.1 (by simp)
 ·rename_i hw
  simp only [hw,aE,if_false]
  exact h.2
end
theorem aED {P:Program} {n:Nat×Nat} {md:Region.Mode} {ops:Array Oper} {un:List Nat} {pm:Bool} {listed:Array Bool}:∀ sk:PS,chk P n md ops un pm false listed sk=true->1<=sk.depth
 | .done,h=>by simp [chk] at h
 | .q i k,h=>by simp [chk] at h
 | .e i k,h=>by simp [PS.depth]
 | .br x y,h=>by
  simp only [chk,aD] at h
  have:=aED x h.1.2
  simp only [PS.depth]; omega
theorem aJk {P:Program} {n:Nat×Nat} {md:Region.Mode} {ops:Array Oper} {un:List Nat} {pm:Bool} {listed:Array Bool}:∀ (x:PS),chk P n md ops un pm false listed x=true->∀ y:PS,x.tops ++ y.tops≠[]
 | .done,h,_=>by simp [chk] at h
 | .q i k,h,_=>by simp [chk] at h
 | .e i k,h,_=>by simp [PS.tops]
 | .br x y,h,z=>by
  simp only [chk,aD] at h
  have:=aJk x h.1.2 y
  simp only [PS.tops]
  intro e
  exact this (List.append_eq_nil_iff.1 e).1
theorem aHZ {md:Region.Mode} {ops:Array Oper} {un:List Nat} {listed:Array Bool} {i:Nat} {mem:Bool} {oi:Oper} (hi:ops[i]?=some oi) (h:aMA md ops un listed i mem=true) (j:Nat) (oj:Oper) (hj:ops[j]?=some oj) (hne:j≠i) (hun:listed.getD j true=false)
  (hno:∀ e∈oj.after,Region.binds md e=true->e.on≠i):oi.apart ops oj=true/\(mem=true->(!un.contains j)=true):=by
 simp only [aMA,aD] at h
 refine ⟨Region.free_spec hi h.1 j oj hj hne hun hno,fun hm=>?_⟩
 have h2:=h.2
 rw [hm] at h2
 simp only [Bool.not_true,Bool.false_or,bD,List.mem_range] at h2
 have h3:=h2 j (Array.getElem?_eq_some_iff.1 hj).1
 simp only [hj,bF,beq_iff_eq,hne,false_or,hun,aE] at h3
 rcases h3 with h3|h3
 ·exact h3
 ·obtain ⟨e,he,hb⟩:=Array.any_eq_true'.1 h3
  simp only [aD,beq_iff_eq] at hb
  exact absurd hb.2 (hno e he hb.1)
section
variable {c : Ctx} {ops : Array Oper} {s : St} {C : List OC} {a : Act} {w : World}
theorem aS9 {i:Nat} {o:Oper} {m:MOp} {K:St->Prop} (hi:ops[i]?=some o) (hm:pN c.P c.nn true ops o=some m) (hq:s3 m.op=true) (hr:Rel c s C a w) (hx:fI c.G [m] s K) :
  ∃ sv v,K ⟨lO s.e m.dst sv,s.o⟩/\dN w (Ms c C) C sv v/\∃ B:Nat->Prop,(∀ b,B b->okB w c C (wN s m) b)/\(aAT m.op=false->∀ b,¬ B b)/\YieldsIf c.P ops (fun w'=>∀ b,B b->w'.heap[b]?=w.heap[b]?) o v a:=by
 obtain ⟨hd,hg,hdn⟩:=nL hm
 have hw:=uW (E:=look s.e) hg
 have hmo:m.eff=false/\wF c.P true o.op=some m.op:=by
  unfold pN at hm
  split at hm
  ·split at hm
   ·cases hm
   ·simp only [if_true] at hm
    obtain ⟨mo,h1,rfl⟩:=aA.1 hm
    exact ⟨rfl,h1⟩
  ·cases hm
 have yes:pT ops o (look s.e)=some true->(oL c.G s m.eff m.op fun sv s'=>fI c.G [] ⟨lO s'.e m.dst sv,s'.o⟩ K)->∃ sv v,K ⟨lO s.e m.dst sv,s.o⟩/\dN w (Ms c C) C sv v/\∃ B:Nat->Prop,(∀ b,B b->okB w c C (wN s m) b)/\(aAT m.op=false->∀ b,¬ B b)/\YieldsIf c.P ops (fun w'=>∀ b,B b->w'.heap[b]?=w.heap[b]?) o v a:=by
  intro hwt hs
  have hwm:=lE hr.relE hwt
  rw [hmo.1] at hs
  simp only [oL] at hs
  obtain ⟨sv,hK,hy⟩:=aUU (c:=c) (C:=C) hq hmo.2 hs
  obtain ⟨v,h1,h2,B,h3,h4,h5⟩:=hy a w hr.wd (fun t _=>hr.env t)
  exact ⟨sv,v,hK,h2,B,h3,h4,.inl ⟨hwm,h5⟩⟩
 have no:pT ops o (look s.e)=some false->K ⟨lO s.e m.dst .undef,s.o⟩->∃ sv v,K ⟨lO s.e m.dst sv,s.o⟩/\dN w (Ms c C) C sv v/\∃ B:Nat->Prop,(∀ b,B b->okB w c C (wN s m) b)/\(aAT m.op=false->∀ b,¬ B b)/\YieldsIf c.P ops (fun w'=>∀ b,B b->w'.heap[b]?=w.heap[b]?) o v a:=by
  intro hwt hs
  have hwm:=lE hr.relE hwt
  exact ⟨.undef,Go.undef,hs,rfl,fun _=>False,fun b hb=>hb.elim,fun _ _ h=>h,.inr ⟨hwm,rfl⟩⟩
 unfold fI at hx
 split at hx
 ·rename_i hgn
  rw [hgn] at hw
  simp only [aAQ] at hw
  exact yes hw hx
 ·rename_i t want hgs
  rw [hgs] at hw
  simp only [aAQ] at hw
  split at hx
  ·rename_i b hb
   rw [hb] at hw
   simp only [] at hw
   by_cases e:b=want
   ·exact yes (by rw [hw,e]; simp) (hx.1 e)
   ·have e':b=!want:=by cases b<;>cases want<;>simp_all
    exact no (by rw [hw,e']; cases want<;>rfl) (hx.2 e')
  ·rename_i hb
   rw [hb] at hw
   exact no hw hx
  ·exact hx.elim
theorem aCk {un:List Nat} {K:St->Prop} {Q:Exit->Act->World->Prop} (hsel:Region.noSelect ops=true) (hQ:∀ s C a w,Rel c s C a w->K s->Q .normal a w) (hP:∀ ch a w,¬ Q (.panic ch) a w) :
  ∀ (sk:PS) (p:MP) (pm top:Bool) (listed:Array Bool) (fuel:Nat) (R:List Nat) (s:St) (C:List OC) (a:Act) (w:World) (A:Nat->Prop),
   chk c.P c.nn .any ops un pm top listed sk=true->mkP c.P c.nn ops sk=some p->sk.depth<=fuel->Rel c s C a w->(pm=true->∀ b,A b->okB w c C R b)->iH c.G un p R s K ->
   (top=true->wpK c.P .any ops (fun i=>!un.contains i) Q A fuel listed a w) /\
   (top=false->∀ i∈sk.tops,wpOp c.P ops Q i (fun a' w'=>((!un.contains i)=true->∀ b,A b->w'.heap[b]?=w.heap[b]?)/\wpK c.P .any ops (fun i=>!un.contains i) Q A (fuel - 1) (listed.setIfInBounds i true) a' w') a w):=by
 intro sk
 induction sk with
 | done =>
  intro p pm top listed fuel R s C a w A hc hm hf hr hA hx
  simp only [chk,aD,List.isEmpty_iff] at hc
  injection hm with hm
  subst hm
  exact ⟨fun _=>aLz hc.2 (hQ s C a w hr hx) fuel,fun h=>by rw [hc.1] at h; cases h⟩
 | q i k ih =>
  intro p pm top listed fuel R s C a w A hc hm hf hr hA hx
  simp only [chk,aD] at hc
  obtain ⟨⟨⟨⟨ht,hpm⟩,hrd⟩,hfr⟩,hc⟩:=hc
  simp only [mkP] at hm
  split at hm
  ·rename_i m k' h1 h2
   split at hm
   ·rename_i hq
    injection hm with hm
    subst hm
    rw [h1] at hfr
    simp only [] at hfr
    obtain ⟨o,hi,hmo⟩:=bB.1 h1
    simp only [iH] at hx
    obtain ⟨sv,v,hK,hv,B,hB,hnm,hy⟩:=aS9 hi hmo hq hr hx
    obtain ⟨hd,_,hdn⟩:=nL hmo
    obtain ⟨f,rfl⟩:∃ f,fuel=f + 1:=⟨fuel - 1,by simp only [PS.depth] at hf; omega⟩
    have hr':Rel c ⟨lO s.e m.dst sv,s.o⟩ C (a.put o.dst v) w:=by rw [hd]; exact hr.put (lL.refl w) hdn hv
    have:=(ih k' pm true (listed.setIfInBounds i true) f (aBW (wN s m) R) _ C (a.put o.dst v) w (fun b=>A b\/B b) hc h2 (by simp only [PS.depth] at hf; omega) hr' (fun _ b hb=>by
     rcases hb with hb|hb
     ·obtain ⟨g1,g2⟩:=hA hpm b hb
      exact ⟨g1,g2.imp id fun ⟨r,hr,x⟩=>⟨r,n8 (.inr hr),x⟩⟩
     ·obtain ⟨g1,g2⟩:=hB b hb
      exact ⟨g1,g2.imp id fun ⟨r,hr,x⟩=>⟨r,n8 (.inl hr),x⟩⟩) hK).1 rfl
    refine ⟨fun _=>aGK (fun b hb=>.inl hb) _ _ _ _ (aKb (mem:=aAT m.op) (w0:=w) hi (Region.noSelect_spec hsel) (fun ch a w h=>absurd h (hP _ _ _)) f listed a w (aHZ hi hfr) (by simpa using hrd) ?_ (fun _ _ _=>rfl) this),fun h=>by rw [ht] at h; cases h⟩
    rcases hy with ⟨hw,hy⟩|hy
    ·refine .inl ⟨hw,fun w' hS=>hy w' fun b hb=>?_⟩
     cases hmm:aAT m.op with
     | true=>exact hS hmm b (.inr hb)
     | false=>exact absurd hb (hnm hmm b)
    ·exact .inr hy
   ·cases hm
  ·cases hm
 | e i k ih =>
  intro p pm top listed fuel R s C a w A hc hm hf hr hA hx
  simp only [chk,aD] at hc
  obtain ⟨⟨ht,hpm⟩,hc⟩:=hc
  simp only [mkP] at hm
  split at hm
  ·rename_i m k' h1 h2
   injection hm with hm
   subst hm
   obtain ⟨o,hi,hmo⟩:=bB.1 h1
   obtain ⟨f,rfl⟩:∃ f,fuel=f + 1:=⟨fuel - 1,by simp only [PS.depth] at hf; omega⟩
   have hf':k.depth<=f:=by simp only [PS.depth] at hf; omega
   have main:wpOp c.P ops Q i (fun a' w'=>((!un.contains i)=true->∀ b,A b->w'.heap[b]?=w.heap[b]?)/\wpK c.P .any ops (fun i=>!un.contains i) Q A f (listed.setIfInBounds i true) a' w') a w:=by
    simp only [iH] at hx
    by_cases hu:un.contains i=true
    ·rw [if_pos hu] at hx
     refine wpOp_mono ?_ (yF (Q:=Q) hi hmo hr hx)
     rintro a' w' ⟨s',C',hK,hr'⟩
     exact ⟨(fun h=>by rw [hu] at h; cases h),(ih k' _ true _ f [] s' C' a' w' A hc h2 hf' hr' (fun h=>by rw [hu] at h; simp at h) hK).1 rfl⟩
    ·rw [if_neg hu] at hx
     have hpm':pm=true:=by rw [bF] at hpm; exact hpm.resolve_right hu
     have hA':pm=true->∀ b,A b->okB w c C (xO R s.o) b:=fun h b hb=>⟨(hA h b hb).1,(hA h b hb).2.imp id fun ⟨r,hr,x⟩=>⟨r,aNf hr,x⟩⟩
     generalize xO R s.o=R at hx hA'
     have h3:=aJW hi (yF (c:=aGe c C R w) (Q:=Q) hi hmo (aMN hr R) hx)
     refine wpOp_mono ?_ h3
     rintro a' w' ⟨⟨s',C',⟨hok,hK⟩,hr'⟩,htm⟩
     obtain ⟨hdst,_,_⟩:=nL hmo
     simp only [aAv,bD,aD,decide_eq_true_eq] at hok
     obtain ⟨g1,g2⟩:=aMK (dst:=m.dst) hr (fun r hm=>(hok r hm).1.1.1) (fun q hm r v e=>by have:=(hok q hm).1.1.2; rw [e] at this; exact aO.1 this) hr'
      (fun r hm=>by
       have:=(hok r hm).1.2
       split at this
       ·rename_i h; exact h
       ·cases this)
      (fun r hm=>(hok r hm).2) (by rw [hdst]; exact htm)
     refine ⟨fun _ b hb=>(g2 b (hA' hpm' b hb)).1,(ih k' _ true _ f R _ _ a' w' A hc h2 hf' g1 (fun _ b hb=>(g2 b (hA' hpm' b hb)).2) hK).1 rfl⟩
   refine ⟨fun htt=>?_,fun _ j hj=>?_⟩
   ·rw [htt] at ht
    have hrd:Region.ready .any ops listed=[i]:=by simpa using ht
    refine ⟨(fun h=>by rw [hrd] at h; cases h),fun j hj=>?_⟩
    rw [hrd] at hj
    obtain rfl:j=i:=by simpa using hj
    exact main
   ·obtain rfl:j=i:=by simpa [PS.tops] using hj
    exact main
  ·cases hm
 | br x y ihx ihy =>
  intro p pm top listed fuel R s C a w A hc hm hf hr hA hx
  simp only [chk,aD] at hc
  obtain ⟨⟨ht,hcx⟩,hcy⟩:=hc
  simp only [mkP] at hm
  split at hm
  ·rename_i x' y' h1 h2
   injection hm with hm
   subst hm
   simp only [iH] at hx
   have hdx:=aED x hcx
   simp only [PS.depth] at hf
   have gx:=(ihx x' pm false listed fuel R s C a w A hcx h1 (by omega) hr hA hx.1).2 rfl
   have gy:=(ihy y' pm false listed fuel R s C a w A hcy h2 (by omega) hr hA hx.2).2 rfl
   have all:∀ i∈(PS.br x y).tops,wpOp c.P ops Q i (fun a' w'=>((!un.contains i)=true->∀ b,A b->w'.heap[b]?=w.heap[b]?)/\wpK c.P .any ops (fun i=>!un.contains i) Q A (fuel - 1) (listed.setIfInBounds i true) a' w') a w:=by
    intro i hi
    rcases aM.1 hi with hi|hi
    ·exact gx i hi
    ·exact gy i hi
   refine ⟨fun htt=>?_,fun _=>all⟩
   rw [htt] at ht
   have hrd:Region.ready .any ops listed=x.tops ++ y.tops:=by simpa using ht
   obtain ⟨f,rfl⟩:∃ f,fuel=f + 1:=⟨fuel - 1,by omega⟩
   refine ⟨fun h=>?_,fun j hj=>by rw [hrd] at hj; exact all j hj⟩
   -- nothing may come up: then there was no head
   rw [hrd] at h
   exact absurd h (aJk x hcx y)
  ·cases hm
def aAA (P:Program) (n:Nat×Nat) (ops:Array Oper) (ts:List Nat):Option (List Nat×MP):=match ts with
 | []=>none
 | k :: r=>match aKu (r.length + 1) (r.drop k) with
  | some (sk,[])=>if P.follows .mixedOrders && Region.noSelect ops && chk P n .any ops (r.take k) true true (aI ops.size false) sk && decide (sk.depth<=ops.size) then (mkP P n ops sk).map fun p=>(r.take k,p) else none
  | _=>none
theorem aBY {ts un:List Nat} {p:MP} {id:Nat} {K:St->Prop} {Q:Exit->Act->World->Prop} (hp:aAA c.P c.nn ops ts=some (un,p)) (hr:Rel c s C a w) (hx:iH c.G un p [] s K) (hQ:∀ s C a w,Rel c s C a w->K s->Q .normal a w):(Code.region id ops true).wp c.P Q a w:=by
 unfold aAA at hp
 split at hp
 ·cases hp
 ·rename_i k r
  split at hp
  ·rename_i sk hd
   split at hp
   ·rename_i hc
    simp only [aD,decide_eq_true_eq] at hc
    obtain ⟨⟨⟨h1,h2⟩,h3⟩,h4⟩:=hc
    obtain ⟨p',hp1,hp2⟩:=aA.1 hp
    injection hp2 with e1 e2
    subst e1 e2
    have hx2:lL w { w with drawn:=w.drawn + 1 }:=⟨rfl,rfl,rfl,aN _,fun _ _=>rfl⟩
    have hr':Rel c s C a { w with drawn:=w.drawn + 1 }:=⟨hr.tmps,hr.defers,fun t=>(hr.env t).ext hx2,hr.wd.ext hx2,hr.fix⟩
    have:=(aCk (c:=c) (ops:=ops) (un:=r.take k) (K:=K) (Q:=fun e a w=>e=.normal/\Q .normal a w) h2 (fun s C a w h1 h2=>⟨rfl,hQ s C a w h1 h2⟩) (fun ch a w h=>by cases h.1) sk p' true true _ ops.size [] s C a _ (fun _=>False) h3 hp1 h4 hr' (fun _ b hb=>hb.elim) hx).1 rfl
    refine Code.wp_mono ?_ (wp_region_any h1 (xG _ _ _ _ this))
    rintro e a w ⟨rfl,h⟩
    exact h
   ·cases hp
  ·cases hp
end
inductive MC where
 | skip
 | reg (draw:Bool) (lv:List Nat) (ops:List MOp)
 | seq (a b:MC)
 | cond (c:Opd) (a b:MC)
 | block (id:Nat) (b:MC)
 | loop (b:MC)
 | exit (id:Nat)
 | ret
 | hole
 | any (un:List Nat) (lv:List Nat) (p:MP)
 | gh (m:MC)
def kB (b:Bool):Opd:=.k (.d (.bool b))
def gL (d g:Nat) (b:Bool) (s:Nat):MOp:=⟨some d,some (g,b),false,.ld none (.t s)⟩
def cS (c:Nat) (x:MC):MC:=.cond (.t c) x .skip
def yQ (lv:List (Nat×List Nat)) (id:Nat):List Nat :=
 match lv with
 | []=>[]
 |(k,l) :: r=>if k=id then l else yQ r id
def aE5 (P:Program) (n:Nat×Nat) (lv:List (Nat×List Nat)) (id:Nat) (draw:Bool) (ops:Array Oper):Option (List MOp) :=
 if draw && !(yQ lv (id + 1000000)).isEmpty then none else nA P n draw ops ops.toList
theorem aF6 {P:Program} {n:Nat×Nat} {lv:List (Nat×List Nat)} {id:Nat} {draw:Bool} {ops:Array Oper} {ms:List MOp} (h:aE5 P n lv id draw ops=some ms):nA P n draw ops ops.toList=some ms:=by
 unfold aE5 at h
 split at h
 ·cases h
 ·exact h
def comp (P:Program) (n:Nat×Nat) (lv:List (Nat×List Nat)):Code->Option MC
 | .skip=>some .skip
 | .region id ops draw=>match aE5 P n lv id draw ops with
  | some ms=>if draw then (if P.follows .mixedOrders && Region.lexB .any ops then some (.reg true (yQ lv id) ms) else none) else some (.reg false (yQ lv id) ms)
  | none=>if draw then (match aAA P n ops (yQ lv (id + 1000000)) with
   | some (un,p)=>some (.any un (yQ lv id) p)
   | none=>some .hole) else some .hole
 | .seq a b=>match comp P n lv a,comp P n lv b with
  | some x,some y=>some (.seq x y)
  | _,_=>none
 | .cond c a b=>match nF c,comp P n lv a,comp P n lv b with
  | some c,some x,some y=>some (.cond c x y)
  | _,_,_=>none
 | .block id b=>(comp P n lv b).map (.block id)
 | .loop b=>(comp P n lv b).map .loop
 | .exit id=>some (.exit id)
 | .ret=>some .ret
 | _=>none
def jB:MC->MC
 | .seq a b=>.seq (jB a) (jB b)
 | .cond c a b=>.cond c (jB a) (jB b)
 | .block id b=>.block id (jB b)
 | .loop b=>.loop (jB b)
 | .gh m=>jB m
 | m=>m
def c7:List Nat->MC->MC
 | [],m=>.gh m
 | 0 :: p,.seq a b=>.seq (c7 p a) b
 | _ :: p,.seq a b=>.seq a (c7 p b)
 | 0 :: p,.cond c a b=>.cond c (c7 p a) b
 | _ :: p,.cond c a b=>.cond c a (c7 p b)
 | _ :: p,.block id b=>.block id (c7 p b)
 | _ :: p,.loop b=>.loop (c7 p b)
 | _ :: p,.gh m=>.gh (c7 p m)
 | _,m=>m
def cT:List (List Nat)->MC->MC
 | [],m=>m
 | p :: ps,m=>cT ps (c7 p m)
theorem aIQ:∀ (p:List Nat) (m:MC),jB (c7 p m)=jB m:=by
 intro p m
 induction m generalizing p with
 | seq a b iha ihb=>cases p with
  | nil=>rfl
  | cons k p=>cases k<;>simp [c7,jB,iha,ihb]
 | cond c a b iha ihb=>cases p with
  | nil=>rfl
  | cons k p=>cases k<;>simp [c7,jB,iha,ihb]
 | block id b ih=>cases p with
  | nil=>rfl
  | cons k p=>cases k<;>simp [c7,jB,ih]
 | loop b ih=>cases p with
  | nil=>rfl
  | cons k p=>cases k<;>simp [c7,jB,ih]
 | gh b ih=>cases p with
  | nil=>rfl
  | cons k p=>cases k<;>simp [c7,jB,ih]
 | _=>cases p with
  | nil=>rfl
  | cons k p=>cases k<;>rfl
theorem oI:∀ (ps:List (List Nat)) (m:MC),jB (cT ps m)=jB m
 | [],_=>rfl
 | p :: ps,m=>by rw [cT,oI ps,aIQ]
theorem aDd {P:Program} {n:Nat×Nat} {lv:List (Nat×List Nat)}:∀ (code:Code) (m:MC),comp P n lv code=some m->jB m=m:=by
 intro code
 induction code with
 | seq a b iha ihb =>
  intro m h
  simp only [comp] at h
  split at h
  ·rename_i x y h1 h2
   injection h with h
   subst h
   simp only [jB,iha _ h1,ihb _ h2]
  ·cases h
 | cond c a b iha ihb =>
  intro m h
  simp only [comp] at h
  split at h
  ·rename_i p x y h0 h1 h2
   injection h with h
   subst h
   simp only [jB,iha _ h1,ihb _ h2]
  ·cases h
 | block id b ih =>
  intro m h
  obtain ⟨x,h1,rfl⟩:=aA.1 h
  simp only [jB,ih _ h1]
 | loop b ih =>
  intro m h
  obtain ⟨x,h1,rfl⟩:=aA.1 h
  simp only [jB,ih _ h1]
 | region id ops d =>
  intro m h
  simp only [comp] at h
  split at h
  ·split at h
   ·split at h
    ·injection h with h; subst h; rfl
    ·cases h
   ·injection h with h; subst h; rfl
  ·split at h
   ·split at h
    ·injection h with h; subst h; rfl
    ·injection h with h; subst h; rfl
   ·injection h with h; subst h; rfl
 | skip=>intro m h; injection h with h; subst h; rfl
 | exit id=>intro m h; injection h with h; subst h; rfl
 | ret=>intro m h; injection h with h; subst h; rfl
 | _=>intro m h; cases h
def nE:List Nat->i8->i8
 | [],_=>[]
 | t :: ts,e=>(t,look e t) :: nE ts e
theorem mG:∀ (ts:List Nat) (e:i8) (t:Nat),look (nE ts e) t=.any\/look (nE ts e) t=look e t
 | [],e,t=>.inl rfl
 | k :: ts,e,t=>by
  simp only [nE,look]
  by_cases h:k=t
  ·subst h; simp
  ·rw [if_neg h]; exact mG ts e t
def MWp (c:Ctx) (m:MC) (s:St) (Q:Exit->St->Prop):Prop :=
 ∀ lv code,comp c.P c.nn lv code=some m->∀ C a w,Rel c s C a w->code.wp c.P (fun e a' w'=>∃ s' C',Q e s'/\Rel c s' C' a' w') a w
def qL (k:St->Prop) (Q:Exit->St->Prop):Exit->St->Prop
 | .normal,s=>k s
 | e,s=>Q e s
def inB (id:Nat) (Q:Exit->St->Prop):Exit->St->Prop
 | .exit i,s=>if i=id then Q .normal s else Q (.exit i) s
 | e,s=>Q e s
section
variable {c : Ctx} {s : St} {Q : Exit -> St -> Prop}
theorem Rel.weak {C:List OC} {a:Act} {w:World} {e':i8} (h:Rel c s C a w) (he:∀ t,look e' t=.any\/look e' t=look s.e t):Rel c ⟨e',s.o⟩ C a w where
 tmps:=h.tmps
 defers:=h.defers
 env:=fun t=>by
  rcases he t with h1|h1
  ·simp only [h1]; trivial
  ·simp only [h1]; exact h.env t
 wd:=h.wd
 fix:=h.fix
theorem aL2 (h:Q .normal s):MWp c .skip s Q:=by
 intro lv code hc C a w hr
 cases code<;>simp only [comp] at hc
 case skip=>exact wp_skip ⟨s,C,h,hr⟩
 all_goals first
  |(split at hc<;>(try split at hc)<;>(try split at hc)<;>first|cases hc|(injection hc with hc; cases hc))
  |(simp only [aA] at hc; obtain ⟨_,_,hc⟩:=hc; cases hc)
  |(injection hc with hc; cases hc)
  | cases hc
theorem aGN {lv:List (Nat×List Nat)} {code:Code} {x y:MC} (hc:comp c.P c.nn lv code=some (.seq x y)):∃ a b,code=.seq a b/\comp c.P c.nn lv a=some x/\comp c.P c.nn lv b=some y:=by
 cases code<;>simp only [comp] at hc
 case seq a b =>
  split at hc
  ·rename_i x' y' h1 h2
   injection hc with hc
   injection hc with hx hy
   subst hx hy
   exact ⟨a,b,rfl,h1,h2⟩
  ·cases hc
 all_goals first
  |(split at hc<;>(try split at hc)<;>(try split at hc)<;>first|cases hc|(injection hc with hc; cases hc))
  |(simp only [aA] at hc; obtain ⟨_,_,hc⟩:=hc; cases hc)
  |(injection hc with hc; cases hc)
  | cases hc
theorem aDJ {lv:List (Nat×List Nat)} {code:Code} {p:Opd} {x y:MC} (hc:comp c.P c.nn lv code=some (.cond p x y)):∃ q a b,code=.cond q a b/\nF q=some p/\comp c.P c.nn lv a=some x/\comp c.P c.nn lv b=some y:=by
 cases code<;>simp only [comp] at hc
 case cond q a b =>
  split at hc
  ·rename_i p' x' y' h0 h1 h2
   injection hc with hc
   injection hc with hp hx hy
   subst hp hx hy
   exact ⟨q,a,b,rfl,h0,h1,h2⟩
  ·cases hc
 all_goals first
  |(split at hc<;>(try split at hc)<;>(try split at hc)<;>first|cases hc|(injection hc with hc; cases hc))
  |(simp only [aA] at hc; obtain ⟨_,_,hc⟩:=hc; cases hc)
  |(injection hc with hc; cases hc)
  | cases hc
theorem aBC {lv:List (Nat×List Nat)} {code:Code} {id:Nat} {x:MC} (hc:comp c.P c.nn lv code=some (.block id x)):∃ b,code=.block id b/\comp c.P c.nn lv b=some x:=by
 cases code<;>simp only [comp] at hc
 case block id' b =>
  obtain ⟨x',h1,h2⟩:=aA.1 hc
  injection h2 with h2 h3
  subst h2 h3
  exact ⟨b,rfl,h1⟩
 all_goals first
  |(split at hc<;>(try split at hc)<;>(try split at hc)<;>first|cases hc|(injection hc with hc; cases hc))
  |(simp only [aA] at hc; obtain ⟨_,_,hc⟩:=hc; cases hc)
  |(injection hc with hc; cases hc)
  | cases hc
theorem aJ1 {lv:List (Nat×List Nat)} {code:Code} {x:MC} (hc:comp c.P c.nn lv code=some (.loop x)):∃ b,code=.loop b/\comp c.P c.nn lv b=some x:=by
 cases code<;>simp only [comp] at hc
 case loop b =>
  obtain ⟨x',h1,h2⟩:=aA.1 hc
  injection h2 with h2
  subst h2
  exact ⟨b,rfl,h1⟩
 all_goals first
  |(split at hc<;>(try split at hc)<;>(try split at hc)<;>first|cases hc|(injection hc with hc; cases hc))
  |(simp only [aA] at hc; obtain ⟨_,_,hc⟩:=hc; cases hc)
  |(injection hc with hc; cases hc)
  | cases hc
theorem aDV {lv:List (Nat×List Nat)} {code:Code} {id:Nat} (hc:comp c.P c.nn lv code=some (.exit id)):code=.exit id:=by
 cases code<;>simp only [comp] at hc
 case exit=>injection hc with hc; injection hc with hc; subst hc; rfl
 all_goals first
  |(split at hc<;>(try split at hc)<;>(try split at hc)<;>first|cases hc|(injection hc with hc; cases hc))
  |(simp only [aA] at hc; obtain ⟨_,_,hc⟩:=hc; cases hc)
  |(injection hc with hc; cases hc)
  | cases hc
theorem aL0 {lv:List (Nat×List Nat)} {code:Code} (hc:comp c.P c.nn lv code=some .ret):code=.ret:=by
 cases code<;>simp only [comp] at hc
 case ret=>rfl
 all_goals first
  |(split at hc<;>(try split at hc)<;>(try split at hc)<;>first|cases hc|(injection hc with hc; cases hc))
  |(simp only [aA] at hc; obtain ⟨_,_,hc⟩:=hc; cases hc)
  |(injection hc with hc; cases hc)
  | cases hc
theorem aGX {lv:List (Nat×List Nat)} {code:Code} {draw:Bool} {l:List Nat} {ms:List MOp} (hc:comp c.P c.nn lv code=some (.reg draw l ms)) :
  ∃ id ops,code=.region id ops draw/\nA c.P c.nn draw ops ops.toList=some ms/\(draw=true->c.P.follows .mixedOrders=true/\Region.lexB .any ops=true):=by
 cases code<;>simp only [comp] at hc
 case region id ops d =>
  split at hc
  ·rename_i ms' h1
   have h1:=aF6 h1
   cases d with
   | true =>
    simp only [if_true] at hc
    split at hc
    ·rename_i h2
     injection hc with hc
     injection hc with h3 _ h5
     subst h3 h5
     exact ⟨id,ops,rfl,h1,fun _=>by simpa using h2⟩
    ·cases hc
   | false =>
    simp only [aE,if_false] at hc
    injection hc with hc
    injection hc with h3 _ h5
    subst h3 h5
    exact ⟨id,ops,rfl,h1,fun h=>by cases h⟩
  ·cases d with
   | true =>
    simp only [if_true] at hc
    split at hc<;>(injection hc with hc; cases hc)
   | false =>
    simp only [aE,if_false] at hc
    injection hc with hc; cases hc
 all_goals first
  |(split at hc<;>(try split at hc)<;>(try split at hc)<;>first|cases hc|(injection hc with hc; cases hc))
  |(simp only [aA] at hc; obtain ⟨_,_,hc⟩:=hc; cases hc)
  |(injection hc with hc; cases hc)
  | cases hc
theorem aGj {lv:List (Nat×List Nat)} {code:Code} {un l:List Nat} {p:MP} (hc:comp c.P c.nn lv code=some (.any un l p)) :
  ∃ id ops ts,code=.region id ops true/\aAA c.P c.nn ops ts=some (un,p):=by
 cases code<;>simp only [comp] at hc
 case region id ops d =>
  split at hc
  ·split at hc
   ·split at hc
    ·injection hc with hc; cases hc
    ·cases hc
   ·injection hc with hc; cases hc
  ·cases d with
   | true =>
    simp only [if_true] at hc
    split at hc
    ·rename_i un' p' h1
     injection hc with hc
     injection hc with h2 h3 h4
     subst h2 h4
     exact ⟨id,ops,_,rfl,h1⟩
    ·injection hc with hc; cases hc
   | false =>
    simp only [aE,if_false] at hc
    injection hc with hc; cases hc
 all_goals first
  |(split at hc<;>(try split at hc)<;>(try split at hc)<;>first|cases hc|(injection hc with hc; cases hc))
  |(simp only [aA] at hc; obtain ⟨_,_,hc⟩:=hc; cases hc)
  |(injection hc with hc; cases hc)
  | cases hc
theorem uN {draw:Bool} {ops:Array Oper}:∀ (os:List Oper) (ms:List MOp),nA c.P c.nn draw ops os=some ms->∀ o∈os,∀ d,o.dst=some d->c.lo<=d/\d < c.n
 | [],_,_=>fun o h=>by cases h
 | o :: os,ms,h=>by
  unfold nA at h
  split at h
  ·rename_i m ms' h1 h2
   intro o' ho
   rcases aF.1 ho with ho|ho
   ·subst ho; exact (nL h1).2.2
   ·exact uN os ms' h2 o' ho
  ·cases h
theorem aOq {x y:MC} (h:MWp c x s (qL (fun s'=>MWp c y s' Q) Q)):MWp c (.seq x y) s Q:=by
 intro lv code hc C a w hr
 obtain ⟨a',b',rfl,h1,h2⟩:=aGN hc
 refine wp_seq (Code.wp_mono ?_ (h lv a' h1 C a w hr))
 rintro e a1 w1 ⟨s1,C1,hq,hr1⟩
 cases e with
 | normal=>exact hq lv b' h2 C1 a1 w1 hr1
 | _=>exact ⟨s1,C1,hq,hr1⟩
theorem aMd {p:Opd} {x y:MC} {b:Bool} (hb:n9 s.e p=.d (.bool b)) (h1:b=true->MWp c x s Q) (h2:b=false->MWp c y s Q):MWp c (.cond p x y) s Q:=by
 intro lv code hc C a w hr
 obtain ⟨q,a',b',rfl,h3,h4,h5⟩:=aDJ hc
 have hv:=i6 hr h3
 rw [hb] at hv
 exact wp_cond_split (dZ.1 hv) (fun h=>h1 h lv a' h4 C a w hr) (fun h=>h2 h lv b' h5 C a w hr)
theorem aLd {id:Nat} {x:MC} (h:MWp c x s (inB id Q)):MWp c (.block id x) s Q:=by
 intro lv code hc C a w hr
 obtain ⟨b',rfl,h1⟩:=aBC hc
 refine wp_block (Code.wp_mono ?_ (h lv b' h1 C a w hr))
 rintro e a1 w1 ⟨s1,C1,hq,hr1⟩
 cases e with
 | exit i =>
  simp only [inB] at hq
  simp only [Exit.inBlock]
  split
  ·rename_i hi; rw [if_pos hi] at hq; exact ⟨s1,C1,hq,hr1⟩
  ·rename_i hi; rw [if_neg hi] at hq; exact ⟨s1,C1,hq,hr1⟩
 | _=>exact ⟨s1,C1,hq,hr1⟩
theorem aM3 {id:Nat} (h:Q (.exit id) s):MWp c (.exit id) s Q:=by
 intro lv code hc C a w hr
 have:=aDV hc
 subst this
 exact wp_exit ⟨s,C,h,hr⟩
theorem aO5 (h:Q .ret s):MWp c .ret s Q:=by
 intro lv code hc C a w hr
 have:=aL0 hc
 subst this
 exact wp_ret ⟨s,C,h,hr⟩
def aOr (n:Nat):SV->Bool
 | .own r=>decide (r < n)
 | .ptr r _ _=>decide (r < n)
 | .el r _ _ _ _=>decide (r < n)
 | .vw r=>decide (r < n)
 | .win r _ _=>decide (r < n)
 | .tup _=>false
 | _=>true
def aCB (n:Nat):List Ob->Bool
 | []=>true
 | .tag r _ :: o=>decide (r < n) && aCB n o
 | _ :: o=>aCB n o
theorem aDU {n:Nat}:∀ {o:List Ob} {q r:Nat} {v:Value},aCB n o=true->o[q]?=some (.tag r v)->r < n
 | [],q,r,v,_,h=>by simp at h
 | ob :: o,0,r,v,hn,h=>by
  simp only [List.getElem?_cons_zero,Option.some.injEq] at h
  subst h
  simp only [aCB,aD,decide_eq_true_eq] at hn
  exact hn.1
 | ob :: o,q + 1,r,v,hn,h=>by
  refine aDU (o:=o) (q:=q) (v:=v) ?_ (by simpa using h)
  cases ob<;>simp only [aCB,aD] at hn<;>first|exact hn|exact hn.2
def aI4 (s s':St):Prop:=(∃ x,s.o=s'.o ++ x)/\(∀ t,look s'.e t=.any\/(look s'.e t=look s.e t/\aOr s'.o.length (look s'.e t)=true))/\aCB s'.o.length s'.o=true
theorem Rel.weaken0 {s':St} {C:List OC} {a:Act} {w:World} (h:Rel c s C a w) (hk:aI4 s s'):∃ C',Rel c s' C' a w:=by
 obtain ⟨⟨x,hx⟩,he,htb⟩:=hk
 have hlen:s'.o.length<=C.length:=by rw [<- h.wd.len,hx]; simp
 have hsub:∀ b∈fC (C.take s'.o.length),b∈fC C:=by
  intro b hb
  obtain ⟨r,oc,h1,h2⟩:=dA.1 hb
  rw [List.getElem?_take] at h1
  split at h1
  ·exact dA.2 ⟨r,oc,h1,h2⟩
  ·cases h1
 have hmem:∀ b∈fC (C.take s'.o.length),(b∈fC C\/w.heap.size<=b)/\b < w.heap.size:=fun b hb=>⟨.inl (hsub b hb),h.wd.lt b (hsub b hb)⟩
 have hnd:=dS.1 h.wd.nodup
 refine ⟨C.take s'.o.length,h.tmps,h.defers,fun t=>?_,h.wd.upd (X:=fun _=>False) (aWG (lL.refl w) _) (fun b hb=>hb.elim) ?_ ?_ ?_ hmem ?_ ?_,h.fix⟩
 ·rcases he t with h1|⟨h1,h2⟩
  ·simp only [h1]; trivial
  ·have hv:=h.env t
   rw [<- h1] at hv
   generalize look s'.e t=q at *
   have key:∀ (r:Nat),r < s'.o.length->(C.take s'.o.length)[r]?=C[r]?:=fun r hr=>by rw [List.getElem?_take,if_pos hr]
   refine rX (gK.upd (C:=C) (X:=fun _=>False) (aWG (lL.refl w) _) (fun b hb=>hb.elim) hmem ?_ ?_ ?_)
   ·intro r oc hr hC
    refine ⟨oc,?_,rfl,rfl⟩
    rw [key r ?_]; exact hC
    cases q<;>simp only [jZ,beq_iff_eq,aE] at hr<;>simp only [aOr,decide_eq_true_eq] at h2<;>omega
   ·intro r oc oc' hq hC hb hC'
    have hr:r < s'.o.length:=by rw [hq] at h2; simpa [aOr] using h2
    rw [key r hr,hC] at hC'
    injection hC' with hC'
    subst hC'
    exact ⟨hb,fun h=>h⟩
   ·cases q<;>first|exact hv|cases h2
 ·rw [List.length_take,Nat.min_eq_left hlen]
 ·intro r ob oc h1 h2
  have hr:=cV h1
  rw [List.getElem?_take,if_pos hr] at h2
  exact .inl ⟨by rw [hx,List.getElem?_append_left hr]; exact h1,h2,fun _ _ h=>h⟩
 ·refine dS.2 ⟨fun r oc h1=>?_,fun r q oc od hne h1 h2=>?_⟩
  ·rw [List.getElem?_take] at h1
   split at h1
   ·exact hnd.1 r oc h1
   ·cases h1
  ·rw [List.getElem?_take] at h1 h2
   split at h1<;>split at h2
   ·exact hnd.2 r q oc od hne h1 h2
   all_goals first|cases h1|cases h2
 ·intro q r v hq
  exact .inl (by rw [hx,List.getElem?_append_left (cV hq)]; exact hq)
 ·intro q r v od hq h
  exact ⟨od,by rw [List.getElem?_take,if_pos (aDU htb hq)]; exact h,rfl⟩
def gO (s s':St):Prop:=∀ (c:Ctx) (C:List OC) (a:Act) (w:World),Rel c s C a w->∃ C',Rel c s' C' a w
theorem aI4.weak {s s':St} (h:aI4 s s'):gO s s':=fun _ _ _ _ hr=>hr.weaken0 h
theorem gO.refl (s:St):gO s s:=fun _ C _ _ hr=>⟨C,hr⟩
theorem gO.trans {s t u:St} (h:gO s t) (k:gO t u):gO s u:=fun c C a w hr=>by
 obtain ⟨C',hr'⟩:=h c C a w hr
 exact k c C' a w hr'
theorem Rel.weaken {s':St} {C:List OC} {a:Act} {w:World} (h:Rel c s C a w) (hk:gO s s'):∃ C',Rel c s' C' a w:=hk c C a w h
theorem gO.x {s s':St} (h:gO s s'):j5 s (fun _:Unit=>s'):=fun c C a w hr=>⟨(),h c C a w hr⟩
theorem aLk {m:MC} {α:Type} {S:α->St} (hk:j5 s S) (h:∀ x,MWp c m (S x) Q):MWp c m s Q:=by
 intro lv code hc C a w hr
 obtain ⟨x,C',hr'⟩:=hk c C a w hr
 exact h x lv code hc C' a w hr'
theorem aPr {m:MC} (t es:Nat) (ht:look s.e t=.nil) (h:MWp c m ⟨(t,.own s.o.length) :: s.e,s.o ++ [.val (.sl true es .nil)]⟩ Q):MWp c m s Q:=by
 intro lv code hc C a w hr
 have hv:=hr.env t
 rw [ht] at hv
 have hv:a.tmps.getD t Go.undef=.slice none 0 0:=hv
 have hn:=aSJ hr.wd (w':=w) (obs:=[.val (.sl true es .nil)]) (ocs:=[{ v:=.slice none 0 0,blk:=0,fp:=[] }]) (lL.refl w) rfl (by simp [fC]) (fun b hb=>by simp [fC] at hb) (fun j ob oc h1 h2=>by
  cases j with
  | zero =>
   simp only [List.getElem?_cons_zero,Option.some.injEq] at h1 h2
   subst h1 h2
   exact ⟨[.slice none 0 0],⟨trivial,none,0,[],[],rfl,aN _,⟨rfl,rfl⟩,by simp⟩,rfl⟩
  | succ j=>simp at h1) (fun j r v hj=>by cases j<;>simp at hj)
 refine h lv code hc _ a w ⟨hr.tmps,hr.defers,fun u=>?_,hn.1,hr.fix⟩
 simp only [look]
 by_cases e:t=u
 ·subst e
  simp only [if_true]
  exact ⟨{ v:=.slice none 0 0,blk:=0,fp:=[] },by rw [List.getElem?_append_right (by rw [hr.wd.len]; exact aN _),hr.wd.len,Nat.sub_self]; rfl,hv⟩
 ·simp only [e,if_false]; exact hn.2 _ _ hr.env u
theorem aPL {un lv:List Nat} {p:MP} {J:St->Prop} (hx:iH c.G un p [] s fun s'=>J ⟨nE lv s'.e,s'.o⟩) (hJ:∀ s',J s'->∃ s1,gO s' s1/\Q .normal s1):MWp c (.any un lv p) s Q:=by
 intro lv' code hc C a w hr
 obtain ⟨id,ops,ts,rfl,hp⟩:=aGj hc
 refine aBY hp hr hx ?_
 intro s' C' a' w' hr' hK
 obtain ⟨s1,h1,h2⟩:=hJ _ hK
 obtain ⟨C1,h3⟩:=(hr'.weak (e':=nE lv s'.e) (mG lv s'.e)).weaken h1
 exact ⟨s1,C1,h2,h3⟩
theorem aMk {α:Type} {b:MC} (S:α->St) (inv:α->Prop) (μ:α->Nat) (x0:α) (h0:gO s (S x0)) (hi:inv x0)
  (body:∀ x,inv x->MWp c b (S x) (qL (fun s'=>∃ y,gO s' (S y)/\inv y/\μ y < μ x) Q)):MWp c (.loop b) s Q:=by
 intro lv code hc C a w hr
 obtain ⟨b',rfl,h1⟩:=aJ1 hc
 obtain ⟨C',hr'⟩:=hr.weaken h0
 refine wp_loop_ghost (fun n a w=>∃ x C,μ x=n/\inv x/\Rel c (S x) C a w) (μ x0) ⟨x0,C',rfl,hi,hr'⟩ ?_
 rintro n a w ⟨x,C,rfl,hx,hrx⟩
 refine Code.wp_mono ?_ (body x hx lv b' h1 C a w hrx)
 rintro e a1 w1 ⟨s1,C1,hq,hr1⟩
 cases e with
 | normal =>
  obtain ⟨y,h2,h3,h4⟩:=hq
  obtain ⟨C2,hr2⟩:=hr1.weaken h2
  exact ⟨μ y,h4,y,C2,rfl,h3,hr2⟩
 | _=>exact ⟨s1,C1,hq,hr1⟩
end
def gQ (e:i8):List Ob->List ResultVar->(List D->Prop)->Prop
 | _,[],K=>K []
 | o,.tmp t :: r,K=>mS o (look e t) fun x o1 _=>gQ e o1 r fun xs=>K (x :: xs)
 | o,.cell t _ :: r,K=>match look e t with
  | .ptr q 0 []=>∃ xs,o[q]?=some (.box (.st xs))/\gQ e (o.set q .dead) r fun ys=>K (.st xs :: ys)
  | _=>False
def fY:i8->List Ob->List ResultVar->(List D->List Ob->Prop)->Prop
 | _,o,[],K=>K [] o
 | e,o,.tmp t :: r,K=>mS o (look e t) fun x o1 _=>fY e o1 r fun xs o2=>K (x :: xs) o2
 | e,o,.cell t _ :: r,K=>match look e t with
  | .ptr q 0 []=>∃ xs,o[q]?=some (.box (.st xs))/\fY e (o.set q .dead) r fun ys o2=>K (.st xs :: ys) o2
  | _=>False
def rR (P:Program) (rs:List ResultVar):Bool :=
 rs.all fun r=>match r with
  | .tmp _=>true
  | .cell _ t=>match P.underlying t with
   | some (.struct _)=>true
   | _=>false
def fQ (P:Program) (e:i8) (o:List Ob):List ResultVar->Prop
 | []=>True
 | .tmp _ :: r=>fQ P e o r
 | .cell t ty :: r=>(∀ q xs,look e t=.ptr q 0 []->o[q]?=some (.box (.st xs))->eH P ty=some xs.size)/\fQ P e o r
def nB:Nat->List D->i8
 | _,[]=>[]
 | n,x :: xs=>(n,.d x) :: nB (n + 1) xs
theorem r8:∀ (ds:List D) (n t:Nat),look (nB n ds) t=if n<=t then (match ds[t - n]? with|some x=>.d x|none=>.any) else .any
 | [],n,t=>by simp [nB,look]
 | x :: xs,n,t=>by
  simp only [nB,look]
  by_cases h:n=t
  ·subst h; simp
  ·rw [if_neg h,r8 xs (n + 1) t]
   by_cases h2:n + 1<=t
   ·rw [if_pos h2,if_pos (by omega),show t - n=(t - (n + 1)) + 1 by omega,List.getElem?_cons_succ]
   ·rw [if_neg h2,if_neg (by omega)]
theorem oY {w:World} {M:Nat->Prop}:∀ (ds:List D) (vs:List Value) (fp:List Nat),eV w M ds vs fp->vs.length=ds.length
 | [],vs,fp,h=>by rw [h.1]; rfl
 | x :: xs,vs,fp,h=>by
  obtain ⟨cs,us,f1,f2,rfl,_,_,h2⟩:=h
  simp [oY xs us f2 h2]
theorem vI {w:World} {M:Nat->Prop}:∀ (ds:List D) (vs:List Value),eV w M ds vs []->∀ (i:Nat) (x:D) (v:Value),ds[i]?=some x->vs[i]?=some v->∃ cs,x.rep w M cs []/\v=gS x cs
 | [],vs,h,i,x,v,hx,_=>by simp at hx
 | y :: ys,vs,h,i,x,v,hx,hv=>by
  obtain ⟨cs,us,f1,f2,rfl,hf,h1,h2⟩:=h
  have:f1=[]/\f2=[]:=by simpa using hf.symm
  obtain ⟨rfl,rfl⟩:=this
  cases i with
  | zero =>
   simp only [List.getElem?_cons_zero,Option.some.injEq] at hx hv
   subst hx hv
   exact ⟨cs,h1,rfl⟩
  | succ i=>exact vI ys us h2 i x v (by simpa using hx) (by simpa using hv)
section
variable {c : Ctx} {s : St} {C : List OC} {a : Act} {w : World}
def aFp (tmps:Array Value):ResultVar->Sem Value
 | .tmp t=>pure (tmps.getD t Go.undef)
 | .cell a t=>do loadVar t (<- asAddr (tmps.getD a Go.undef))
theorem nV (hr:Rel c s C a w):∀ (rvs:List ResultVar) (o1:List Ob) (C1:List OC) (ks L:List Nat) (K:List D->Prop),Loose s.o C o1 C1 ks L->rR c.P rvs=true->fQ c.P s.e s.o rvs->gQ s.e o1 rvs K ->
  ∃ xs us fp L',K xs/\(rvs.mapM (aFp a.tmps)).run c.P w=.ok us w/\eV w (Ms c C) xs us fp/\L'=L ++ fp/\L'.Nodup/\(∀ b∈L',b∈fC C)
 | [],o1,C1,ks,L,K,hl,_,_,h=>⟨[],[],[],L,h,rfl,⟨rfl,rfl⟩,by simp,hl.lnodup,hl.lsub⟩
 | .tmp t :: rvs,o1,C1,ks,L,K,hl,hok,hsz,h=>by
  simp only [gQ] at h
  obtain ⟨x,o2,C2,kr,cs,fp,hK,hv,hx,hl2⟩:=oK hr.wd hl (hr.env t) h
  simp only [rR,aX,bK] at hok
  obtain ⟨xs,us,fq,L',h1,h2,h3,h4,h5,h6⟩:=nV hr rvs o2 C2 _ _ _ hl2 hok hsz hK
  refine ⟨x :: xs,a.tmps.getD t Go.undef :: us,fp ++ fq,L',h1,?_,⟨cs,us,fp,fq,by rw [hv],rfl,hx,h3⟩,by rw [h4,aR],h5,h6⟩
  rw [aV,aB]
  simp only [aFp,aH,aC]
  rw [aB,h2]
  rfl
 | .cell t ty :: rvs,o1,C1,ks,L,K,hl,hok,hsz,h=>by
  simp only [gQ] at h
  split at h
  ·rename_i q hq
   obtain ⟨xs,hbox,h⟩:=h
   have hv:=hr.env t
   rw [hq] at hv
   obtain ⟨oc,hC,hv⟩:=hv
   obtain ⟨oc1,h3,_,_,h4⟩:=hl.same q oc hC
   rcases hl.obs q _ oc1 hbox h3 with ⟨h5,h6,h7⟩|⟨h5,_⟩
   case inr=>cases h5
   have:=h4 h7
   subst this
   obtain ⟨cs,fps,hrow,hrep,hfp⟩:=hr.wd.obs q _ oc1 h5 h6
   simp only [rR,aX,aD] at hok
   have hsz1:=hsz.1 q xs hq h5
   simp only [eH,aA] at hsz1
   obtain ⟨i,hi,hin⟩:=hsz1
   have hst:∃ fs,c.P.underlying ty=some (.struct fs):=by
    have h1:=hok.1
    split at h1
    ·rename_i fs hu; exact ⟨fs,hu⟩
    ·cases h1
   obtain ⟨fs,hu⟩:=hst
   have hcell:∀ j u,cs[j]?=some u->w.cell? ((⟨oc1.blk,0,none⟩:Addr).add j)=some u:=by
    have:=jT.of_row (M:=fun _=>False) hrow (fun h=>h)
    rcases this with h8|h8
    ·exact fun j u hu=>by rw [h8] at hu; simp at hu
    ·exact h8.2.2
   have hld:=nS (P:=c.P) (w:=w) (ad:=⟨oc1.blk,0,none⟩) (ds:=cs) hu hi (by rw [dJ (.st xs) _ _ hrep,hin]; rfl) hcell
   simp only [Instr.loadAt,Instr.sureAddr] at hld
   have hd:=hl.drop hbox h3
   have hd2:Loose s.o C (o1.set q .dead) (C1.set q { oc1 with fp:=[] }) (ks ++ [q]) (L ++ fps):=by
    rw [hfp] at hd
    refine ⟨hd.len,hd.clen,hd.obs,hd.same,fun b hb=>⟨(hd.fps b hb).1,fun hb'=>(hd.fps b hb).2 ?_⟩,hd.nodup,?_,fun b hb=>hd.lsub b ?_⟩
    ·simp only [aM,aF] at hb' ⊢
     exact hb'.imp id .inr
    ·have:=hd.lnodup
     rw [aY] at this ⊢
     exact ⟨this.1,(bG.1 this.2.1).2,fun a ha b hb=>this.2.2 a ha b (aL _ hb)⟩
    ·simp only [aM,aF] at hb ⊢
     exact hb.imp id .inr
   obtain ⟨ys,us,fq,L',g1,g2,g3,g4,g5,g6⟩:=nV hr rvs _ _ _ _ _ hd2 hok.2 hsz.2 h
   refine ⟨.st xs :: ys,.agg cs.toArray :: us,fps ++ fq,L',g1,?_,⟨cs,us,fps,fq,rfl,rfl,hrep,g3⟩,by rw [g4,aR],g5,g6⟩
   rw [aV,aB]
   simp only [aFp,hv,asAddr]
   rw [aB,aH,aC]
   simp only [aB,aH,aC] at hld
   rw [hld,aC,aB,g2]
   rfl
  ·exact h.elim
theorem pI (hr:Rel c s C a w):∀ (rvs:List ResultVar) (o1:List Ob) (C1:List OC) (ks L:List Nat) (K:List D->List Ob->Prop),Loose s.o C o1 C1 ks L->rR c.P rvs=true->fQ c.P s.e s.o rvs->fY s.e o1 rvs K ->
  ∃ xs us fp L' o2 C2 ks',K xs o2/\Loose s.o C o2 C2 ks' L'/\(rvs.mapM (aFp a.tmps)).run c.P w=.ok us w/\eV w (Ms c C) xs us fp/\L'=L ++ fp/\L'.Nodup/\(∀ b∈L',b∈fC C)
 | [],o1,C1,ks,L,K,hl,_,_,h=>⟨[],[],[],L,o1,C1,ks,h,hl,rfl,⟨rfl,rfl⟩,by simp,hl.lnodup,hl.lsub⟩
 | .tmp t :: rvs,o1,C1,ks,L,K,hl,hok,hsz,h=>by
  simp only [fY] at h
  obtain ⟨x,o2,C2,kr,cs,fp,hK,hv,hx,hl2⟩:=oK hr.wd hl (hr.env t) h
  simp only [rR,aX,bK] at hok
  obtain ⟨xs,us,fq,L',oo,CC,kk,h1,hL,h2,h3,h4,h5,h6⟩:=pI hr rvs o2 C2 _ _ _ hl2 hok hsz hK
  refine ⟨x :: xs,a.tmps.getD t Go.undef :: us,fp ++ fq,L',oo,CC,kk,h1,hL,?_,⟨cs,us,fp,fq,by rw [hv],rfl,hx,h3⟩,by rw [h4,aR],h5,h6⟩
  rw [aV,aB]
  simp only [aFp,aH,aC]
  rw [aB,h2]
  rfl
 | .cell t ty :: rvs,o1,C1,ks,L,K,hl,hok,hsz,h=>by
  simp only [fY] at h
  split at h
  ·rename_i q hq
   obtain ⟨xs,hbox,h⟩:=h
   have hv:=hr.env t
   rw [hq] at hv
   obtain ⟨oc,hC,hv⟩:=hv
   obtain ⟨oc1,h3,_,_,h4⟩:=hl.same q oc hC
   rcases hl.obs q _ oc1 hbox h3 with ⟨h5,h6,h7⟩|⟨h5,_⟩
   case inr=>cases h5
   have:=h4 h7
   subst this
   obtain ⟨cs,fps,hrow,hrep,hfp⟩:=hr.wd.obs q _ oc1 h5 h6
   simp only [rR,aX,aD] at hok
   have hsz1:=hsz.1 q xs hq h5
   simp only [eH,aA] at hsz1
   obtain ⟨i,hi,hin⟩:=hsz1
   have hst:∃ fs,c.P.underlying ty=some (.struct fs):=by
    have h1:=hok.1
    split at h1
    ·rename_i fs hu; exact ⟨fs,hu⟩
    ·cases h1
   obtain ⟨fs,hu⟩:=hst
   have hcell:∀ j u,cs[j]?=some u->w.cell? ((⟨oc1.blk,0,none⟩:Addr).add j)=some u:=by
    have:=jT.of_row (M:=fun _=>False) hrow (fun h=>h)
    rcases this with h8|h8
    ·exact fun j u hu=>by rw [h8] at hu; simp at hu
    ·exact h8.2.2
   have hld:=nS (P:=c.P) (w:=w) (ad:=⟨oc1.blk,0,none⟩) (ds:=cs) hu hi (by rw [dJ (.st xs) _ _ hrep,hin]; rfl) hcell
   simp only [Instr.loadAt,Instr.sureAddr] at hld
   have hd:=hl.drop hbox h3
   have hd2:Loose s.o C (o1.set q .dead) (C1.set q { oc1 with fp:=[] }) (ks ++ [q]) (L ++ fps):=by
    rw [hfp] at hd
    refine ⟨hd.len,hd.clen,hd.obs,hd.same,fun b hb=>⟨(hd.fps b hb).1,fun hb'=>(hd.fps b hb).2 ?_⟩,hd.nodup,?_,fun b hb=>hd.lsub b ?_⟩
    ·simp only [aM,aF] at hb' ⊢
     exact hb'.imp id .inr
    ·have:=hd.lnodup
     rw [aY] at this ⊢
     exact ⟨this.1,(bG.1 this.2.1).2,fun a ha b hb=>this.2.2 a ha b (aL _ hb)⟩
    ·simp only [aM,aF] at hb ⊢
     exact hb.imp id .inr
   obtain ⟨ys,us,fq,L',oo,CC,kk,g1,gL,g2,g3,g4,g5,g6⟩:=pI hr rvs _ _ _ _ _ hd2 hok.2 hsz.2 h
   refine ⟨.st xs :: ys,.agg cs.toArray :: us,fps ++ fq,L',oo,CC,kk,g1,gL,?_,⟨cs,us,fps,fq,rfl,rfl,hrep,g3⟩,by rw [g4,aR],g5,g6⟩
   rw [aV,aB]
   simp only [aFp,hv,asAddr]
   rw [aB,aH,aC]
   simp only [aB,aH,aC] at hld
   rw [hld,aC,aB,g2]
   rfl
  ·exact h.elim
theorem aBz {P:Program} {fn:Func} {tmps:Array Value} {us:List Value} (h:(fn.results.toList.mapM (aFp tmps)).run P w=.ok us w):(results fn tmps).run P w=.ok (rF us) w:=by
 have he:results fn tmps=(do let vs<-fn.results.mapM (aFp tmps); pure (if h:vs.size=1 then vs[0] else .tuple vs)):=by
  unfold results aFp
  congr 1
 rw [he,aB,Array.mapM_eq_mapM_toList,Sem.run_map,h]
 simp only [aC,aH]
 congr 1
 match us with
 | []=>rfl
 | [u]=>rfl
 | u :: v :: us=>simp [rF]
theorem qY {w':World} {M M':Nat->Prop} (hs:w.heap.size<=w'.heap.size) (hM:∀ b,b < w.heap.size->M' b->M b) (hk:∀ b,b < w.heap.size->w'.heap[b]?=w.heap[b]?):∀ (rs:List D) (us:List Value) (fp:List Nat),eV w M rs us fp->eV w' M' rs us fp
 | [],us,fp,h=>h
 | x :: rs,us,fp,h=>by
  obtain ⟨cs,us',f1,f2,rfl,rfl,h1,h2⟩:=h
  exact ⟨cs,us',f1,f2,rfl,rfl,eC hs hM _ _ _ (fun b hb _=>hk b hb) h1,qY hs hM hk rs us' f2 h2⟩
end
def aGl (P:Program) (rvs:List ResultVar) (R:List D->Prop):Exit->St->Prop
 | .normal,s=>fQ P s.e s.o rvs/\gQ s.e s.o rvs R
 | .ret,s=>fQ P s.e s.o rvs/\gQ s.e s.o rvs R
 | _,_=>False
theorem aVH {lo:Nat} {P:PG} {f:FuncId} {fn:Func} {code:Code} {lv:List (Nat×List Nat)} {m:MC} {ds:List D} {R:List D->Prop} (hf:P.P.funcs[f]?=some fn) (hb:fn.body=some code)
  (hc:comp P.P (lo,fn.ntmps) lv code=some m) (hk:rR P.P fn.results.toList=true) (hn:ds.length<=fn.ntmps)
  (h:∀ c:Ctx,c.G=P->c.nn=(lo,fn.ntmps)->MWp c m ⟨nB 0 ds,[]⟩ (aGl P.P fn.results.toList R)):Fn P f ds R:=by
 intro M vs w hM hgl hvs
 have hlen:=oY _ _ _ hvs
 refine calls_of_wp hf hb ?_
 let c:Ctx:={ G:=P,n:=fn.ntmps,w0:=w,M0:=M,g0:=[],lo:=lo,fx:=fun t=>(vs.toArray ++ aI (fn.ntmps - vs.toArray.size) Go.undef).getD t Go.undef }
 have hMs:∀ b,Ms c [] b↔M b:=by intro b; simp [Ms,fC,c]
 have hrel:Rel c ⟨nB 0 ds,[]⟩ [] { tmps:=vs.toArray ++ aI (fn.ntmps - vs.toArray.size) Go.undef,defers:=[] } w:=by
  refine ⟨?_,rfl,fun t=>?_,?_,fun t _=>rfl⟩
  ·simp only [aZ,a6,aT,c,hlen]; omega
  ·simp only [r8,bM,if_true,bL]
   cases hd:ds[t]? with
   | none=>trivial
   | some x =>
    have ht:=cV hd
    have hv:vs[t]?=some vs[t]:=List.getElem?_eq_getElem (by omega)
    obtain ⟨cs,h1,h2⟩:=vI _ _ hvs t x _ hd hv
    have e:(vs.toArray ++ aI (fn.ntmps - vs.toArray.size) Go.undef).getD t Go.undef=vs[t]:=by
     rw [aG,Array.getElem?_append_left (by simp; omega)]
     simp [hv]
    have hM2:Ms c []=M:=by funext b; exact propext (hMs b)
    refine ⟨cs,by rw [hM2]; exact h1,?_⟩
    exact e.trans h2
  ·exact ⟨rfl,fun r ob oc h=>by simp at h,fun q r v h=>by simp at h,by simp [fC],fun b hb=>by simp [fC] at hb,fun b hb=>by simp [fC] at hb,fun b hb=>by simp [fC] at hb,rfl,rfl,rfl,aN _,fun _ _ _=>rfl,fun b hb=>hM b hb,by
    have hM2:Ms c []=M:=by funext b; exact propext (hMs b)
    rw [hM2]; exact hgl⟩
 refine Code.wp_mono ?_ (h c rfl rfl lv code hc [] _ w hrel)
 rintro e a w' ⟨s,C,hq,hr⟩
 have fin:fQ P.P s.e s.o fn.results.toList/\gQ s.e s.o fn.results.toList R->a.defers=[]/\∃ v,(results fn a.tmps).run P.P w'=.ok v w' /\
   ∃ rs us fp,Ending.returned v=.returned (rF us)/\R rs/\eV w' (fun b=>M b\/b∈fp) rs us fp/\fp.Nodup/\(∀ b∈fp,w.heap.size<=b)/\lL w w':=by
  rintro ⟨hs,ht⟩
  obtain ⟨xs,us,fp,L',h1,h2,h3,hL,h5,h6⟩:=nV hr fn.results.toList s.o C [] [] R (Loose.refl hr.wd) hk hs ht
  rw [aU] at hL
  rw [hL] at h5 h6
  refine ⟨hr.defers,rF us,aBz h2,xs,us,fp,rfl,h1,?_,h5,fun b hb=>?_,?_⟩
  ·refine qY (aN _) (fun b hb hm=>?_) (fun _ _=>rfl) _ _ _ h3
   rcases hm with hm|hm
   ·exact .inl hm
   ·exact .inr (h6 b hm)
  ·rcases hr.wd.mine b (h6 b hb) with h|h
   ·exact h
   ·cases h
  ·exact ⟨hr.wd.os,hr.wd.tape,hr.wd.output,hr.wd.size,fun b hb=>hr.wd.kept b hb (by simp [c])⟩
 cases e with
 | normal=>exact fin hq
 | ret=>exact fin hq
 | _=>exact hq.elim
def aFf (L:List (Value×Nat×D)):List Ob:=L.map fun p=>.val (.sl false p.2.1 p.2.2)
def aEF:Nat->List (Value×Nat×D)->List Ob
 | _,[]=>[]
 | n,p :: L=>.tag n p.1 :: aEF (n + 1) L
def z1 (L:List (Value×Nat×D)):List Ob:=aFf L ++ aEF 0 L
def aA3 (L:List (Value×Nat×D)):List OC:=(L.map fun p=>{ v:=p.1,blk:=0,fp:=[] }) ++ (L.map fun p=>{ v:=p.1,blk:=0,fp:=[] })
theorem aFM:∀ (n:Nat) (L:List (Value×Nat×D)),(aEF n L).length=L.length
 | _,[]=>rfl
 | n,p :: L=>by simp [aEF,aFM (n + 1) L]
theorem aQo (L:List (Value×Nat×D)):(z1 L).length=(aA3 L).length:=by simp [z1,aFf,aA3,aFM]
theorem aHa (L:List (Value×Nat×D)):∀ oc∈aA3 L,oc.fp=[]:=by
 intro oc h
 rcases aM.1 h with h|h<;>(obtain ⟨p,_,rfl⟩:=List.mem_map.1 h; rfl)
theorem t7 (L:List (Value×Nat×D)):fC (aA3 L)=[]:=by
 refine List.eq_nil_iff_forall_not_mem.2 fun b hb=>?_
 obtain ⟨j,od,hj,hb'⟩:=dA.1 hb
 rw [aHa L od (aP hj)] at hb'
 cases hb'
theorem aB7:∀ (L:List (Value×Nat×D)) (n i:Nat) (ob:Ob),(aEF n L)[i]?=some ob->∃ p,L[i]?=some p/\ob=.tag (n + i) p.1
 | [],n,i,ob,h=>by simp [aEF] at h
 | p :: L,n,0,ob,h=>by
  simp only [aEF,List.getElem?_cons_zero,Option.some.injEq] at h
  exact ⟨p,rfl,h.symm⟩
 | p :: L,n,i + 1,ob,h=>by
  simp only [aEF,List.getElem?_cons_succ] at h
  obtain ⟨q,h1,h2⟩:=aB7 L (n + 1) i ob h
  exact ⟨q,by simpa using h1,by rw [h2]; congr 1; omega⟩
theorem aOT {w:World} {M:Nat->Prop} (L:List (Value×Nat×D)) (hL:∀ p∈L,(D.sl false p.2.1 p.2.2).rep w M [p.1] []) (r:Nat) (ob:Ob) (oc:OC) (h1:(z1 L)[r]?=some ob) (h2:(aA3 L)[r]?=some oc):gY w M ob oc:=by
 have hf:=aHa L oc (aP h2)
 by_cases hr:r < L.length
 ·rw [z1,List.getElem?_append_left (by simpa [aFf] using hr)] at h1
  rw [aA3,List.getElem?_append_left (by simpa using hr)] at h2
  simp only [aFf,List.getElem?_map,aA] at h1 h2
  obtain ⟨p,hp,rfl⟩:=h1
  obtain ⟨p',hp',rfl⟩:=h2
  rw [hp] at hp'
  injection hp' with hp'
  subst hp'
  exact ⟨[p.1],hL p (aP hp),rfl⟩
 ·rw [z1,List.getElem?_append_right (by simp [aFf]; omega)] at h1
  obtain ⟨p,_,rfl⟩:=aB7 _ _ _ _ h1
  exact hf
theorem aMF (L:List (Value×Nat×D)) (q r:Nat) (v:Value) (h:(z1 L)[q]?=some (.tag r v)):∃ oc,(aA3 L)[r]?=some oc/\oc.v=v:=by
 by_cases hr:q < L.length
 ·rw [z1,List.getElem?_append_left (by simpa [aFf] using hr)] at h
  simp only [aFf,List.getElem?_map,aA] at h
  obtain ⟨p,_,hp⟩:=h
  cases hp
 ·rw [z1,List.getElem?_append_right (by simp [aFf]; omega)] at h
  obtain ⟨p,hp,he⟩:=aB7 _ _ _ _ h
  injection he with h1 h2
  subst h1 h2
  have hl:=cV hp
  rw [Nat.zero_add,aA3,List.getElem?_append_left (by simpa using hl),List.getElem?_map,hp]
  exact ⟨_,rfl,rfl⟩
theorem aSn {lo:Nat} {P:PG} {f:FuncId} {fn:Func} {code:Code} {lv:List (Nat×List Nat)} {m:MC} {L:List (Value×Nat×D)} {ds:List D} {R:List D->Prop} (hf:P.P.funcs[f]?=some fn) (hb:fn.body=some code)
  (hc:comp P.P (lo,fn.ntmps) lv code=some m) (hk:rR P.P fn.results.toList=true) (hn:ds.length<=fn.ntmps)
  (h:∀ c:Ctx,c.G=P->c.nn=(lo,fn.ntmps)->MWp c m ⟨nB 0 ds,z1 L⟩ (aGl P.P fn.results.toList R)):FnL P f L ds R:=by
 intro M vs w hM hgl hL hvs
 have hlen:=oY _ _ _ hvs
 refine calls_of_wp hf hb ?_
 let c:Ctx:={ G:=P,n:=fn.ntmps,w0:=w,M0:=M,g0:=[],lo:=lo,fx:=fun t=>(vs.toArray ++ aI (fn.ntmps - vs.toArray.size) Go.undef).getD t Go.undef }
 have hMs:∀ b,Ms c (aA3 L) b↔M b:=by intro b; simp [Ms,t7,c]
 have hM2:Ms c (aA3 L)=M:=by funext b; exact propext (hMs b)
 have hrel:Rel c ⟨nB 0 ds,z1 L⟩ (aA3 L) { tmps:=vs.toArray ++ aI (fn.ntmps - vs.toArray.size) Go.undef,defers:=[] } w:=by
  refine ⟨?_,rfl,fun t=>?_,?_,fun t _=>rfl⟩
  ·simp only [aZ,a6,aT,c,hlen]; omega
  ·simp only [r8,bM,if_true,bL]
   cases hd:ds[t]? with
   | none=>trivial
   | some x =>
    have ht:=cV hd
    have hv:vs[t]?=some vs[t]:=List.getElem?_eq_getElem (by omega)
    obtain ⟨cs,h1,h2⟩:=vI _ _ hvs t x _ hd hv
    have e:(vs.toArray ++ aI (fn.ntmps - vs.toArray.size) Go.undef).getD t Go.undef=vs[t]:=by
     rw [aG,Array.getElem?_append_left (by simp; omega)]
     simp [hv]
    refine ⟨cs,by rw [hM2]; exact h1,?_⟩
    exact e.trans h2
  ·exact ⟨aQo L,fun r ob oc h1 h2=>by rw [hM2]; exact aOT L hL r ob oc h1 h2,aMF L,by rw [t7]; exact bH,by intro b hb; rw [t7] at hb; exact absurd hb bA,by intro b hb; rw [t7] at hb; exact absurd hb bA,by intro b hb; rw [t7] at hb; exact absurd hb bA,rfl,rfl,rfl,aN _,fun _ _ _=>rfl,fun b hb=>hM b hb,by rw [hM2]; exact hgl⟩
 refine Code.wp_mono ?_ (h c rfl rfl lv code hc (aA3 L) _ w hrel)
 rintro e a w' ⟨s,C,hq,hr⟩
 have fin:fQ P.P s.e s.o fn.results.toList/\gQ s.e s.o fn.results.toList R->a.defers=[]/\∃ v,(results fn a.tmps).run P.P w'=.ok v w' /\
   ∃ rs us fp,Ending.returned v=.returned (rF us)/\R rs/\eV w' (fun b=>M b\/b∈fp) rs us fp/\fp.Nodup/\(∀ b∈fp,w.heap.size<=b)/\lL w w':=by
  rintro ⟨hs,ht⟩
  obtain ⟨xs,us,fp,L',h1,h2,h3,hL,h5,h6⟩:=nV hr fn.results.toList s.o C [] [] R (Loose.refl hr.wd) hk hs ht
  rw [aU] at hL
  rw [hL] at h5 h6
  refine ⟨hr.defers,rF us,aBz h2,xs,us,fp,rfl,h1,?_,h5,fun b hb=>?_,?_⟩
  ·refine qY (aN _) (fun b hb hm=>?_) (fun _ _=>rfl) _ _ _ h3
   rcases hm with hm|hm
   ·exact .inl hm
   ·exact .inr (h6 b hm)
  ·rcases hr.wd.mine b (h6 b hb) with h|h
   ·exact h
   ·cases h
  ·exact ⟨hr.wd.os,hr.wd.tape,hr.wd.output,hr.wd.size,fun b hb=>hr.wd.kept b hb (by simp [c])⟩
 cases e with
 | normal=>exact fin hq
 | ret=>exact fin hq
 | _=>exact hq.elim
def aHd (P:Program) (rvs:List ResultVar) (bx:Bool) (R:D->List D->Prop):Exit->St->Prop
 | .normal,s=>fQ P s.e s.o rvs/\look s.e 0=kX bx 0/\fY s.e s.o rvs fun rs o2=>∃ x',o2[0]?=some (i7 bx x')/\R x' rs
 | .ret,s=>fQ P s.e s.o rvs/\look s.e 0=kX bx 0/\fY s.e s.o rvs fun rs o2=>∃ x',o2[0]?=some (i7 bx x')/\R x' rs
 | _,_=>False
theorem aIq (q:SV) (ds:List D) (t:Nat):look ((0,q) :: nB 1 ds) t=if t=0 then q else (match ds[t - 1]? with|some x=>.d x|none=>.any):=by
 simp only [look]
 by_cases h:0=t
 ·subst h; simp
 ·rw [if_neg h,if_neg (fun e=>h e.symm),r8,if_pos (by omega)]
theorem aTe {lo:Nat} {P:PG} {f:FuncId} {fn:Func} {code:Code} {lv:List (Nat×List Nat)} {m:MC} {bx:Bool} {x:D} {ds:List D} {R:D->List D->Prop} (hf:P.P.funcs[f]?=some fn) (hb:fn.body=some code)
  (hc:comp P.P (lo,fn.ntmps) lv code=some m) (hlo:0 < lo) (hk:rR P.P fn.results.toList=true) (hn:ds.length + 1<=fn.ntmps)
  (h:∀ c:Ctx,c.G=P->c.nn=(lo,fn.ntmps)->MWp c m ⟨(0,kX bx 0) :: nB 1 ds,[i7 bx x]⟩ (aHd P.P fn.results.toList bx R)):y7 P f bx x ds R:=by
 intro M oc vs w hM hob hnd hlt hgl hvs
 have hlen:=oY _ _ _ hvs
 refine calls_of_wp hf hb ?_
 let T:Array Value:=(mkV bx oc :: vs).toArray ++ aI (fn.ntmps - (mkV bx oc :: vs).toArray.size) Go.undef
 let c:Ctx:={ G:=P,n:=fn.ntmps,w0:=w,M0:=M,g0:=oc.fp,lo:=lo,fx:=fun t=>T.getD t Go.undef }
 have hF:fC [oc]=oc.fp:=by simp [fC]
 have hMs:(fun b=>M b\/b∈oc.fp)=Ms c [oc]:=by funext b; simp [Ms,hF,c]
 have hT0:T.getD 0 Go.undef=mkV bx oc:=by
  show ((mkV bx oc :: vs).toArray ++ aI (fn.ntmps - (mkV bx oc :: vs).toArray.size) Go.undef).getD 0 Go.undef=mkV bx oc
  rw [aG,Array.getElem?_append_left (by simp)]
  simp
 have hrel:Rel c ⟨(0,kX bx 0) :: nB 1 ds,[i7 bx x]⟩ [oc] { tmps:=T,defers:=[] } w:=by
  refine ⟨?_,rfl,fun t=>?_,?_,fun t _=>rfl⟩
  ·simp only [T,aZ,a6,aT,c,hlen,List.length_cons]; omega
  ·rw [aIq]
   by_cases ht:t=0
   ·subst ht
    rw [if_pos rfl]
    show dN w (Ms c [oc]) [oc] (kX bx 0) (T.getD 0 Go.undef)
    rw [hT0]
    cases bx with
    | false=>exact ⟨oc,rfl,rfl⟩
    | true=>exact ⟨oc,rfl,rfl⟩
   ·rw [if_neg ht]
    cases hd:ds[t - 1]? with
    | none=>trivial
    | some y =>
     have ht1:=cV hd
     have hv:vs[t - 1]?=some vs[t - 1]:=List.getElem?_eq_getElem (by omega)
     obtain ⟨cs,h1,h2⟩:=vI _ _ hvs (t - 1) y _ hd hv
     have e:T.getD t Go.undef=vs[t - 1]:=by
      show ((mkV bx oc :: vs).toArray ++ aI (fn.ntmps - (mkV bx oc :: vs).toArray.size) Go.undef).getD t Go.undef=vs[t - 1]
      rw [aG,Array.getElem?_append_left (by simp; omega)]
      obtain ⟨u,rfl⟩:∃ u,t=u + 1:=⟨t - 1,by omega⟩
      rw [List.getElem?_toArray,List.getElem?_cons_succ]
      simp only [Nat.add_sub_cancel] at hv ⊢
      rw [hv]; rfl
     refine ⟨cs,by rw [<- hMs]; exact h1,?_⟩
     exact e.trans h2
  ·refine ⟨rfl,fun r ob od hr ho=>?_,fun q r v hq=>?_,by rw [hF]; exact hnd,fun b hb=>?_,fun b hb=>?_,fun b hb=>?_,rfl,rfl,rfl,aN _,fun _ _ _=>rfl,fun b hb=>hM b hb,by rw [<- hMs]; exact hgl⟩
   ·cases r with
    | zero =>
     simp only [List.getElem?_cons_zero,Option.some.injEq] at hr ho
     subst hr ho
     rw [<- hMs]; exact hob
    | succ r=>simp at hr
   ·cases q with
    | zero=>cases bx<;>simp [i7] at hq
    | succ q=>simp at hq
   ·rw [hF] at hb; exact (hlt b hb).1
   ·rw [hF] at hb; exact (hlt b hb).2
   ·rw [hF] at hb; exact .inr hb
 refine Code.wp_mono ?_ (h c rfl rfl lv code hc [oc] _ w hrel)
 rintro e a w' ⟨s,C,hq,hr⟩
 have fin:(fQ P.P s.e s.o fn.results.toList/\look s.e 0=kX bx 0/\fY s.e s.o fn.results.toList fun rs o2=>∃ x',o2[0]?=some (i7 bx x')/\R x' rs)->a.defers=[]/\∃ v,(results fn a.tmps).run P.P w'=.ok v w' /\
   ∃ x' rs us fo fp,Ending.returned v=.returned (rF us)/\R x' rs/\gY w' (fun b=>M b\/b∈fo ++ fp) (i7 bx x') { oc with fp:=fo }/\eV w' (fun b=>M b\/b∈fo ++ fp) rs us fp /\
   (fo ++ fp).Nodup/\(∀ b∈fo ++ fp,(b∈oc.fp\/w.heap.size<=b)/\b < w'.heap.size)/\Went w w' (fun b=>b∈oc.fp):=by
  rintro ⟨hs,h0,ht⟩
  obtain ⟨xs,us,fp,L',o2,C2,ks',⟨x',hx',hR⟩,hL,h2,h3,hLe,h5,h6⟩:=pI hr fn.results.toList s.o C [] [] _ (Loose.refl hr.wd) hk hs ht
  rw [aU] at hLe
  subst hLe
  have hx'l:=cV hx'
  obtain ⟨oc2,hC2⟩:∃ oc2,C2[0]?=some oc2:=⟨C2[0]'(by rw [<- hL.len]; exact hx'l),List.getElem?_eq_getElem _⟩
  have hz:(s.o[0]?=some (i7 bx x')/\C[0]?=some oc2/\0 ∉ ks'):=by
   rcases hL.obs 0 _ oc2 hx' hC2 with h7|⟨h7,_⟩
   ·exact h7
   ·cases bx<;>cases h7
  obtain ⟨hz1,hz2,_⟩:=hz
  have hobj:=hr.wd.obs 0 _ oc2 hz1 hz2
  have hfo:∀ b∈oc2.fp,b∈fC C2:=fun b hb=>dA.2 ⟨0,oc2,hC2,hb⟩
  have hsame:mkV bx oc2=mkV bx oc:=by
   have hv:=hr.env 0
   rw [h0] at hv
   have hx:=hr.fix 0 hlo
   have e1:mkV bx oc2=a.tmps.getD 0 Go.undef:=by
    cases bx with
    | false =>
     obtain ⟨o3,k1,k2⟩:=hv
     rw [hz2] at k1; injection k1 with k1; subst k1; exact k2.symm
    | true =>
     obtain ⟨o3,k1,k2⟩:=hv
     rw [hz2] at k1; injection k1 with k1; subst k1; exact k2.symm
   rw [e1,hx]; exact hT0
  have hobj':gY w' (Ms c C) (i7 bx x') { oc with fp:=oc2.fp }:=by
   cases bx with
   | false =>
    obtain ⟨cs,k1,k2⟩:=hobj
    exact ⟨cs,k1,(show oc2.v=oc.v from hsame).symm.trans k2⟩
   | true =>
    obtain ⟨cs,fps,k1,k2,k3⟩:=hobj
    have hblk:oc2.blk=oc.blk:=by
     have:Value.pointer (some ⟨oc2.blk,0,none⟩)=Value.pointer (some ⟨oc.blk,0,none⟩):=hsame
     injection this with this; injection this with this; injection this with this
    exact ⟨cs,fps,by rw [<- hblk]; exact k1,k2,by rw [k3,hblk]⟩
  have hsubM:∀ b,(M b\/b∈oc2.fp ++ L')->Ms c C b:=by
   rintro b (hb|hb)
   ·exact .inl hb
   ·rcases aM.1 hb with hb|hb
    ·exact .inr (hL.fps b (hfo b hb)).1
    ·exact .inr (h6 b hb)
  refine ⟨hr.defers,rF us,aBz h2,x',xs,us,oc2.fp,L',rfl,hR,hobj'.weak hsubM,?_,?_,fun b hb=>?_,?_⟩
  ·exact qY (aN _) (fun b _ hm=>hsubM b hm) (fun _ _=>rfl) _ _ _ h3
  ·refine aY.2 ⟨(dS.1 hL.nodup).1 0 oc2 hC2,h5,fun a ha b hb hab=>?_⟩
   subst hab
   exact (hL.fps a (hfo a ha)).2 hb
  ·have hbC:b∈fC C:=by
    rcases aM.1 hb with hb|hb
    ·exact (hL.fps b (hfo b hb)).1
    ·exact h6 b hb
   exact ⟨(hr.wd.mine b hbC).symm,hr.wd.lt b hbC⟩
  ·exact ⟨hr.wd.os,hr.wd.tape,hr.wd.output,hr.wd.size,fun b hb hn=>hr.wd.kept b hb hn⟩
 cases e with
 | normal=>exact fin hq
 | ret=>exact fin hq
 | _=>exact hq.elim
def oQ (P:PG) (sv:SV) (want:Bool) (dst:Option Nat) (eff:Bool) (mo:MO) (os:List MOp) (s:St) (K:St->Prop):Prop :=
 match sv with
 | .d (.bool b)=>(b=want->oL P s eff mo fun sv s'=>fI P os ⟨lO s'.e dst sv,s'.o⟩ K)/\(b=!want->fI P os ⟨lO s.e dst .undef,s.o⟩ K)
 | .undef=>fI P os ⟨lO s.e dst .undef,s.o⟩ K
 | _=>False
section
variable {P : PG} {s : St} {K : St -> Prop} {os : List MOp} {dst : Option Nat} {eff : Bool} {mo : MO} {t : Nat} {want : Bool}
theorem aK7:fI P [] s K=K s:=propext aJ
theorem aMx:fI P (⟨dst,none,eff,mo⟩ :: os) s K=oL P s eff mo fun sv s'=>fI P os ⟨lO s'.e dst sv,s'.o⟩ K:=propext aJ
theorem aOz:fI P (⟨dst,some (t,want),eff,mo⟩ :: os) s K=oQ P (look s.e t) want dst eff mo os s K:=by
 simp only [fI,oQ]
 all_goals
  generalize look s.e t=q
  match q with
  | .d (.bool b)=>rfl
  | .d (.int _ _)=>rfl
  | .d (.str _)=>rfl
  | .d (.err _)=>rfl
  | .d (.sl _ _ _)=>rfl
  | .d (.st _)=>rfl
  | .d (.ptr _)=>rfl
  | .d (.clo _ _)=>rfl
  | .d (.lnk _ _)=>rfl
  | .d .nil=>rfl
  | .d (.cons _ _)=>rfl
  | .undef=>rfl
  | .any=>rfl
  | .nil=>rfl
  | .own _=>rfl
  | .ptr _ _ _=>rfl
  | .el _ _ _ _ _=>rfl
  | .vw _=>rfl
  | .win _ _ _=>rfl
  | .tup _=>rfl
theorem aHE:oQ P (.d (.bool true)) true dst eff mo os s K=oL P s eff mo fun sv s'=>fI P os ⟨lO s'.e dst sv,s'.o⟩ K:=by
 simp [oQ]
theorem aG4:oQ P (.d (.bool false)) false dst eff mo os s K=oL P s eff mo fun sv s'=>fI P os ⟨lO s'.e dst sv,s'.o⟩ K:=by
 simp [oQ]
theorem aMR:oQ P (.d (.bool true)) false dst eff mo os s K=fI P os ⟨lO s.e dst .undef,s.o⟩ K:=by
 simp [oQ]
theorem aNn:oQ P (.d (.bool false)) true dst eff mo os s K=fI P os ⟨lO s.e dst .undef,s.o⟩ K:=by
 simp [oQ]
theorem aNI:oQ P .undef want dst eff mo os s K=fI P os ⟨lO s.e dst .undef,s.o⟩ K:=propext aJ
theorem cG {b:Bool} (h1:b=true->oQ P (.d (.bool true)) want dst eff mo os s K) (h2:b=false->oQ P (.d (.bool false)) want dst eff mo os s K):oQ P (.d (.bool b)) want dst eff mo os s K:=by
 cases b
 ·exact h2 rfl
 ·exact h1 rfl
@[congr] theorem aQ7 {s' : St} (h : s = s') : fI P os s K = fI P os s' K := by rw [h]
@[congr] theorem aRY {s' : St} {sv sv' : SV} (h : sv = sv') (h2 : s = s') : oQ P sv want dst eff mo os s K = oQ P sv' want dst eff mo os s' K := by rw [h, h2]
end
def aM4:List (Nat×Nat)->St->St
 | [],s=>s
 |(t,es) :: r,s=>aM4 r ⟨(t,.own s.o.length) :: s.e,s.o ++ [.val (.sl true es .nil)]⟩
def aG5:List (Nat×Nat)->St->Prop
 | [],_=>True
 |(t,es) :: r,s=>look s.e t=.nil/\aG5 r ⟨(t,.own s.o.length) :: s.e,s.o ++ [.val (.sl true es .nil)]⟩
set_option linter.unusedVariables false in
theorem aF4 {c:Ctx} {m:MC} {Q:Exit->St->Prop}:∀ (ts:List (Nat×Nat)) (s:St),aG5 ts s->MWp c m (aM4 ts s) Q->MWp c m s Q
 | [],s,_,h=>h
 |(t,es) :: r,s,hk,h=>aPr t es hk.1 (aF4 r _ hk.2 h)
def eY (P:PG):MC->St->(Exit->St->Prop)->Prop
 | .skip,s,Q=>Q .normal s
 | .reg _ lv ms,s,Q=>fI P ms s fun s'=>Q .normal ⟨nE lv s'.e,s'.o⟩
 | .seq x y,s,Q=>eY P x s (qL (fun s'=>eY P y s' Q) Q)
 | .cond p x y,s,Q=>match n9 s.e p with
  | .d (.bool b)=>(b=true->eY P x s Q)/\(b=false->eY P y s Q)
  | _=>False
 | .block id x,s,Q=>eY P x s (inB id Q)
 | .loop b,s,Q=>∃ (ts:List (Nat×Nat)) (α:Type) (S:α->St) (inv:α->Prop) (μ:α->Nat) (x0:α),aG5 ts s/\gO (aM4 ts s) (S x0)/\inv x0 /\
   ∀ x,inv x->eY P b (S x) (qL (fun s'=>∃ y,gO s' (S y)/\inv y/\μ y < μ x) Q)
 | .exit id,s,Q=>Q (.exit id) s
 | .ret,s,Q=>Q .ret s
 | .hole,_,_=>False
 | .any un lv p,s,Q=>∃ J:St->Prop,(iH P un p [] s fun s'=>J ⟨nE lv s'.e,s'.o⟩)/\∀ s',J s'->∃ s1,gO s' s1/\Q .normal s1
 | .gh m,s,Q=>∃ (α:Type) (S:α->St),j5 s S/\∀ x,eY P m (S x) Q
def yV (P:PG) (sv:SV) (x y:MC) (s:St) (Q:Exit->St->Prop):Prop :=
 match sv with
 | .d (.bool b)=>(b=true->eY P x s Q)/\(b=false->eY P y s Q)
 | _=>False
section
variable {P : PG} {s : St} {Q : Exit -> St -> Prop} {x y : MC}
theorem aHY:eY P .skip s Q=Q .normal s:=propext aJ
theorem aJU:eY P .ret s Q=Q .ret s:=propext aJ
theorem aHP {i:Nat}:eY P (.exit i) s Q=Q (.exit i) s:=propext aJ
theorem aKD:eY P (.seq x y) s Q=eY P x s (qL (fun s'=>eY P y s' Q) Q):=propext aJ
theorem aGd {i:Nat}:eY P (.block i x) s Q=eY P x s (inB i Q):=propext aJ
theorem aKX {d:Bool} {lv:List Nat} {ms:List MOp}:eY P (.reg d lv ms) s Q=fI P ms s fun s'=>Q .normal ⟨nE lv s'.e,s'.o⟩:=propext aJ
theorem aHU {p:Opd}:eY P (.cond p x y) s Q=yV P (n9 s.e p) x y s Q:=by
 simp only [eY,yV]
theorem aHL:yV P (.d (.bool true)) x y s Q=eY P x s Q:=by simp [yV]
theorem aGr:yV P (.d (.bool false)) x y s Q=eY P y s Q:=by simp [yV]
theorem cH {b:Bool} (h1:b=true->eY P x s Q) (h2:b=false->eY P y s Q):yV P (.d (.bool b)) x y s Q:=⟨h1,h2⟩
@[congr] theorem aRm {s' : St} (h : s = s') : eY P x s Q = eY P x s' Q := by rw [h]
@[congr] theorem aQ9 {s' : St} {sv sv' : SV} (h : sv = sv') (h2 : s = s') : yV P sv x y s Q = yV P sv' x y s' Q := by rw [h, h2]
theorem aPk {k:St->Prop}:qL k Q .normal s=k s:=propext aJ
theorem aPi {k:St->Prop}:qL k Q .ret s=Q .ret s:=propext aJ
theorem aPQ {k:St->Prop} {i:Nat}:qL k Q (.exit i) s=Q (.exit i) s:=propext aJ
theorem aVB {i:Nat}:inB i Q .normal s=Q .normal s:=propext aJ
theorem aUs {i:Nat}:inB i Q .ret s=Q .ret s:=propext aJ
theorem aVu {i j:Nat}:inB i Q (.exit j) s=if j=i then Q .normal s else Q (.exit j) s:=propext aJ
theorem d5 {α:Type} (S:α->St) (inv:α->Prop) (μ:α->Nat) (x0:α) (h0:gO s (S x0)) (hi:inv x0)
  (body:∀ z,inv z->eY P x (S z) (qL (fun s'=>∃ y,gO s' (S y)/\inv y/\μ y < μ z) Q)):eY P (.loop x) s Q:=⟨[],α,S,inv,μ,x0,trivial,h0,hi,body⟩
theorem aBD {α:Type} (ts:List (Nat×Nat)) (S:α->St) (inv:α->Prop) (μ:α->Nat) (x0:α) (hn:aG5 ts s) (h0:gO (aM4 ts s) (S x0)) (hi:inv x0)
  (body:∀ z,inv z->eY P x (S z) (qL (fun s'=>∃ y,gO s' (S y)/\inv y/\μ y < μ z) Q)):eY P (.loop x) s Q:=⟨ts,α,S,inv,μ,x0,hn,h0,hi,body⟩
end
theorem aLF {c:Ctx} {m:MC} {s:St} {Q Q':Exit->St->Prop} (h:MWp c m s Q) (hq:∀ e s',Q e s'->Q' e s'):MWp c m s Q':=by
 intro lv code hc C a w hr
 exact Code.wp_mono (fun e a' w' ⟨s',C',h1,h2⟩=>⟨s',C',hq e s' h1,h2⟩) (h lv code hc C a w hr)
theorem aNS {c:Ctx} {draw:Bool} {lv:List Nat} {ms:List MOp} {s:St} {Q:Exit->St->Prop} (hx:fI c.G ms s (fun s'=>Q .normal ⟨nE lv s'.e,s'.o⟩)):MWp c (.reg draw lv ms) s Q:=by
 intro lv' code hc C a w hr
 obtain ⟨id,ops,rfl,h1,h2⟩:=aGX hc
 cases draw with
 | true =>
  obtain ⟨h3,h4⟩:=h2 rfl
  refine zW (C:=C) h3 h4 (fun j o d hj=>uN _ _ h1 o (aP (by rw [Array.getElem?_toList]; exact hj)) d) hr.relE (qV _ _ s _ h1 hx) ?_
  rintro E a' w' hE ⟨e',hK,rfl⟩
  exact ⟨_,C,hK,Rel.weak (s:=⟨e',s.o⟩) ⟨hE.tmps,hE.defers,hE.env,hE.wd,hE.fix⟩ (mG lv e')⟩
 | false =>
  refine wp_region_list (kV (K:=fun s'=>Q .normal ⟨nE lv s'.e,s'.o⟩) ?_ _ _ s C a w h1 hr hx)
  intro s' C' a' w' hr' hK
  exact ⟨_,C',hK,hr'.weak (mG lv s'.e)⟩
theorem g8 {c:Ctx}:∀ (m:MC) (s:St) (Q:Exit->St->Prop),eY c.G m s Q->MWp c (jB m) s Q
 | .gh m,s,Q,h=>by
   obtain ⟨α,S,hk,h⟩:=h
   exact aLk hk fun x=>g8 m (S x) Q (h x)
 | .skip,s,Q,h=>aL2 h
 | .ret,s,Q,h=>aO5 h
 | .exit i,s,Q,h=>aM3 h
 | .hole,s,Q,h=>h.elim
 | .any un lv p,s,Q,h=>by
   obtain ⟨J,h1,h2⟩:=h
   exact aPL h1 h2
 | .reg d lv ms,s,Q,h=>aNS h
 | .seq x y,s,Q,h=>aOq (aLF (g8 x s _ h) fun e s' hq=>by
   cases e with
   | normal=>exact g8 y s' Q hq
   | _=>exact hq)
 | .cond p x y,s,Q,h=>by
   simp only [eY] at h
   split at h
   ·rename_i b hb
    exact aMd hb (fun e=>g8 x s Q (h.1 e)) (fun e=>g8 y s Q (h.2 e))
   ·exact h.elim
 | .block i x,s,Q,h=>aLd (g8 x s _ h)
 | .loop b,s,Q,h=>by
   obtain ⟨ts,α,S,inv,μ,x0,hn,h0,hi,hb⟩:=h
   exact aF4 ts s hn <| aMk S inv μ x0 h0 hi fun x hx=>g8 b (S x) _ (hb x hx)
theorem aAu {P:Program} {n:Nat×Nat} {lv:List (Nat×List Nat)} {b:Option Code} {m:MC} (h:b.bind (comp P n lv)=some m):jB m=m:=by
 cases b with
 | none=>cases h
 | some code=>exact aDd code m h
theorem aSj (ps:List (List Nat)) {lo:Nat} {P:PG} {f:FuncId} {fn:Func} {lv:List (Nat×List Nat)} {m:MC} {ds:List D} {R:List D->Prop} (hf:P.P.funcs[f]?=some fn)
  (hb:fn.body.bind (comp P.P (lo,fn.ntmps) lv)=some m) (hk:rR P.P fn.results.toList=true) {n:Nat} (hnn:fn.ntmps=n) {rv:List ResultVar} (hr:fn.results.toList=rv) (hn:ds.length<=n)
  (h:eY P (cT ps m) ⟨nB 0 ds,[]⟩ (aGl P.P rv R)):Fn P f ds R:=by
 subst hnn hr
 have he:jB (cT ps m)=m:=(oI ps m).trans (aAu hb)
 cases hc:fn.body with
 | none=>rw [hc] at hb; cases hb
 | some code=>rw [hc] at hb; exact aVH hf hc hb hk hn fun c hP _=>by rw [<- he]; exact g8 _ _ _ (by rw [hP]; exact h)
theorem aOo (ps:List (List Nat)) {lo:Nat} {P:PG} {f:FuncId} {fn:Func} {lv:List (Nat×List Nat)} {m:MC} {L:List (Value×Nat×D)} {ds:List D} {R:List D->Prop} (hf:P.P.funcs[f]?=some fn)
  (hb:fn.body.bind (comp P.P (lo,fn.ntmps) lv)=some m) (hk:rR P.P fn.results.toList=true) {n:Nat} (hnn:fn.ntmps=n) {rv:List ResultVar} (hr:fn.results.toList=rv) (hn:ds.length<=n)
  (h:eY P (cT ps m) ⟨nB 0 ds,z1 L⟩ (aGl P.P rv R)):FnL P f L ds R:=by
 subst hnn hr
 have he:jB (cT ps m)=m:=(oI ps m).trans (aAu hb)
 cases hc:fn.body with
 | none=>rw [hc] at hb; cases hb
 | some code=>rw [hc] at hb; exact aSn hf hc hb hk hn fun c hP _=>by rw [<- he]; exact g8 _ _ _ (by rw [hP]; exact h)
theorem aOl (ps:List (List Nat)) {lo:Nat} {P:PG} {f:FuncId} {fn:Func} {lv:List (Nat×List Nat)} {m:MC} {bx:Bool} {x:D} {ds:List D} {R:D->List D->Prop} (hf:P.P.funcs[f]?=some fn)
  (hb:fn.body.bind (comp P.P (lo,fn.ntmps) lv)=some m) (hk:rR P.P fn.results.toList=true) {n:Nat} (hnn:fn.ntmps=n) {rv:List ResultVar} (hr:fn.results.toList=rv) (hlo:0 < lo) (hn:ds.length + 1<=n)
  (h:eY P (cT ps m) ⟨(0,kX bx 0) :: nB 1 ds,[i7 bx x]⟩ (aHd P.P rv bx R)):y7 P f bx x ds R:=by
 subst hnn hr
 have he:jB (cT ps m)=m:=(oI ps m).trans (aAu hb)
 cases hc:fn.body with
 | none=>rw [hc] at hb; cases hb
 | some code=>rw [hc] at hb; exact aTe hf hc hb hlo hk hn fun c hP _=>by rw [<- he]; exact g8 _ _ _ (by rw [hP]; exact h)
def aCa (P:Program) (n:Nat×Nat) (lv:List (Nat×List Nat)):Code->Option MC
 | .skip=>some .skip
 | .region id ops draw=>match aE5 P n lv id draw ops with
  | some ms=>some (.reg draw (yQ lv id) ms)
  | none=>match yQ lv (id + 1000000) with
   | k :: r=>match aKu (r.length + 1) (r.drop k) with
    | some (sk,[])=>(mkP P n ops sk).map fun p=>.any (r.take k) (yQ lv id) p
    | _=>some .hole
   | []=>some .hole
 | .seq a b=>match aCa P n lv a,aCa P n lv b with
  | some x,some y=>some (.seq x y)
  | _,_=>none
 | .cond c a b=>match nF c,aCa P n lv a,aCa P n lv b with
  | some c,some x,some y=>some (.cond c x y)
  | _,_,_=>none
 | .block id b=>(aCa P n lv b).map (.block id)
 | .loop b=>(aCa P n lv b).map .loop
 | .exit id=>some (.exit id)
 | .ret=>some .ret
 | _=>none
structure CM (P0:Option Program) (P:PG) (f:FuncId) (lo:Nat) (lv:List (Nat×List Nat)) where
 {fn:Func}
 {m:MC}
 {n:Nat}
 {rv:List ResultVar}
 hf:P.P.funcs[f]?=some fn
 h0:(∀ p,P0=some p->fn.body.bind (aCa p (lo,fn.ntmps) lv)=some m):=by
  intro p h
  injection h with h
  subst h
  conv=>lhs; cbv
 hb:fn.body.bind (comp P.P (lo,fn.ntmps) lv)=some m:=by kernel_rfl
 hk:rR P.P fn.results.toList=true:=by kernel_rfl
 hn:fn.ntmps=n:=by cbv
 hr:fn.results.toList=rv:=by cbv
section
variable {P0 : Option Program} {P : PG} {f : FuncId} {lo : Nat} {lv : List (Nat × List Nat)} (e : CM P0 P f lo lv) (ps : List (List Nat)) {bx : Bool} {x : D} {L : List (Value × Nat × D)} {ds : List D}
theorem cW {R:List D->Prop} (h:eY P (cT ps e.m) ⟨nB 0 ds,[]⟩ (aGl P.P e.rv R)) (hn:bJ ds.length e.n=true:=by rfl):Fn P f ds R:=aSj ps e.hf e.hb e.hk e.hn e.hr (aQ hn) h
theorem aSM {R:List D->Prop} (h:eY P (cT ps e.m) ⟨nB 0 ds,z1 L⟩ (aGl P.P e.rv R)) (hn:bJ ds.length e.n=true:=by rfl):FnL P f L ds R:=aOo ps e.hf e.hb e.hk e.hn e.hr (aQ hn) h
theorem jY {R:D->List D->Prop} (h:eY P (cT ps e.m) ⟨(0,kX bx 0) :: nB 1 ds,[i7 bx x]⟩ (aHd P.P e.rv bx R)) (hn:bJ (ds.length + 1) e.n=true:=by rfl) (hlo:bJ 1 lo=true:=by rfl):y7 P f bx x ds R:=aOl ps e.hf e.hb e.hk e.hn e.hr (aQ hlo) (aQ hn) h
end
theorem eI {P:PG} {m:MC} {s:St} {Q:Exit->St->Prop} {α:Type} (S:α->St) (hk:j5 s S) (h:∀ x,eY P m (S x) Q):eY P (.gh m) s Q:=⟨α,S,hk,h⟩
theorem c8 {P:PG} {m:MC} {s s':St} {Q:Exit->St->Prop} (hk:gO s s') (h:eY P m s' Q):eY P (.gh m) s Q:=⟨Unit,_,hk.x,fun _=>h⟩
def aRl (n:Nat) (e:i8):i8->Prop
 | []=>True
 |(k,sv) :: r=>(look e k=sv/\aOr n sv=true)/\aRl n e r
def onJ (F:(St->Prop)->Prop) (Q:St->Prop):Prop:=∃ J:St->Prop,F J/\∀ s',J s'->∃ s1,gO s' s1/\Q s1
section
variable {P : PG} {un : List Nat} {i r : Nat} {m : MOp} {k x y : MP} {R : List Nat} {s : St} {K : St -> Prop}
theorem aKn {lv:List Nat} {p:MP} {Q:Exit->St->Prop}:eY P (.any un lv p) s Q=onJ (fun J=>iH P un p [] s fun s'=>J ⟨nE lv s'.e,s'.o⟩) (fun s1=>Q .normal s1):=propext aJ
theorem dL {F:(St->Prop)->Prop} {Q:St->Prop} (h:F Q):onJ F Q:=⟨Q,h,fun s' hs=>⟨s',gO.refl s',hs⟩⟩
theorem aHI:iH P un .done R s K=K s:=propext aJ
theorem aOv:iH P un (.q i m k) R s K=fI P [m] s fun s'=>iH P un k (aBW (wN s m) R) s' K:=propext aJ
theorem aNz:iH P un (.br x y) R s K=(iH P un x R s K/\iH P un y R s K):=propext aJ
theorem aD7 (dst:Option Nat) (e0:i8):∀ (d:List Nat) (e:i8),qP [] dst e0 d e=[]
 | _,[]=>rfl
 | d,(t,_) :: e=>by
  have:vX [] (look e0 t)=false:=by cases look e0 t<;>rfl
  simp only [qP,this,Bool.false_and,aE,if_false]
  exact aD7 dst e0 (t :: d) e
theorem aLX:iH P un (.e i m k) [] s K=fI P [m] s fun s'=>iH P un k [] s' K:=by
 have h:xO [] s.o=[]:=by simp [xO,aCf,aBW]
 simp only [iH,h,fU,rM,rY,aD7,aAv,List.all_nil,aU,true_and,ite_self]
def aGz (P:PG) (un:List Nat) (m:MOp) (k:MP) (R:List Nat) (s:St) (K:St->Prop):Prop :=
 fI P [m] ⟨fU R s.e,rM R s.o⟩ fun s'=>aAv R s.o s'.o=true/\iH P un k R ⟨qP R m.dst s.e [] s.e ++ fU R s'.e,rY s.o R s'.o⟩ K
def aCq (P:PG) (u:Bool) (un:List Nat) (m:MOp) (k:MP) (R:List Nat) (s:St) (K:St->Prop):Prop :=
 if u then fI P [m] s fun s'=>iH P un k [] s' K
 else aGz P un m k (xO R s.o) s K
theorem aM0:iH P un (.e i m k) (r :: R) s K=aCq P (un.contains i) un m k (r :: R) s K:=propext aJ
theorem aPx:aCq P true un m k R s K=fI P [m] s fun s'=>iH P un k [] s' K:=by simp [aCq]
theorem aPn:aCq P false un m k R s K=aGz P un m k (xO R s.o) s K:=by simp [aCq]
theorem aP4:aGz P un m k (r :: R) s K=fI P [m] ⟨fU (r :: R) s.e,rM (r :: R) s.o⟩ fun s'=>aAv (r :: R) s.o s'.o=true/\iH P un k (r :: R) ⟨qP (r :: R) m.dst s.e [] s.e ++ fU (r :: R) s'.e,rY s.o (r :: R) s'.o⟩ K:=propext aJ
@[congr] theorem aRv {R' : List Nat} {s' : St} (hR : R = R') (hs : s = s') : aGz P un m k R s K = aGz P un m k R' s' K := by rw [hR, hs]
@[congr] theorem aRb {p : MP} {R' : List Nat} {s' : St} (hR : R = R') (hs : s = s') : iH P un p R s K = iH P un p R' s' K := by rw [hR, hs]
@[congr] theorem aRG {u u' : Bool} {R' : List Nat} {s' : St} (hu : u = u') (hR : R = R') (hs : s = s') : aCq P u un m k R s K = aCq P u' un m k R' s' K := by rw [hu, hR, hs]
end
theorem cU {s s':St} (x:List Ob) (h:s.o=s'.o ++ x) (h2:aRl s'.o.length s.e s'.e) (h3:aCB s'.o.length s'.o=true:=by rfl):gO s s':=by
 refine aI4.weak ⟨⟨x,h⟩,fun t=>?_,h3⟩
 generalize s'.e=e' at h2
 induction e' with
 | nil=>exact .inl rfl
 | cons p r ih =>
  obtain ⟨k,sv⟩:=p
  simp only [look]
  by_cases e:k=t
  ·subst e; simp only [if_true]; exact .inr ⟨h2.1.1.symm,h2.1.2⟩
  ·simp only [e,if_false]; exact ih h2.2
end Go.Pe
