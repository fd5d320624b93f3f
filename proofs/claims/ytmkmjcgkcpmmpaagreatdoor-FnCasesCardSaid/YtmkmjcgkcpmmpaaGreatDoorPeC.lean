/-
 A layer for walks of Go functions aBJ their compact code (part C): data and where they lie,contracts,the operations,the walk of code. Own work,the same in every claim of this set.
-/
import Derived.Test.YtmkmjcgkcpmmpaaGreatDoorPeB
import Derived.OrdersHeld
import Derived.Deep.LoopGhost
namespace Go.Pe
open Go Go.RowKit
def aB7 (ops:Array Oper):Option (Nat×Bool)->Option (Option (Nat×Bool))
 | none=>some none
 | some (j,b)=>((ops[j]?).bind (·.dst)).map fun t=>some (t,b)
def aOo (n:Nat×Nat):Option Nat->Bool
 | none=>true
 | some t=>decide (n.1<=t/\t < n.2)
def nE (P:Program) (n:Nat×Nat) (draw:Bool) (ops:Array Oper) (o:Oper):Option MOp :=
 if aOo n o.dst then
  match aB7 ops o.guard with
  | none=>none
  | some g =>
   if draw then (sV P true o.op).map fun mo=>⟨o.dst,g,false,mo⟩
   else match aH6 P o.op with
    | some mo=>some ⟨o.dst,g,true,mo⟩
    | none=>(sV P true o.op).map fun mo=>⟨o.dst,g,false,mo⟩
 else none
def lB (P:Program) (n:Nat×Nat) (draw:Bool) (ops:Array Oper):List Oper->Option (List MOp)
 | []=>some []
 | o :: os=>match nE P n draw ops o,lB P n draw ops os with
  | some m,some ms=>some (m :: ms)
  | _,_=>none
def mB (P:PG) (s:St) (eff:Bool) (mo:MO) (K:SV->St->Prop):Prop :=
 match eff with
 | true=>eJ P s mo K
 | false=>dJ P s.o (look s.e) mo fun sv=>K sv s
def dS (P:PG):List MOp->St->(St->Prop)->Prop
 | [],s,K=>K s
 | o :: os,s,K =>
  match o.g with
  | none=>mB P s o.eff o.op fun sv s'=>dS P os ⟨kE s'.e o.dst sv,s'.o⟩ K
  | some (t,want)=>match look s.e t with
   | .d (.bool b)=>(b=want->mB P s o.eff o.op fun sv s'=>dS P os ⟨kE s'.e o.dst sv,s'.o⟩ K)/\(b=!want->dS P os ⟨kE s.e o.dst .undef,s.o⟩ K)
   | .undef=>dS P os ⟨kE s.e o.dst .undef,s.o⟩ K
   | _=>False
section
variable {c : Ctx} {C : List OC} {ops : Array Oper}
theorem aBu (e:gI) (dst:Option Nat) (s:SV):pO (look e) dst s=look (kE e dst s):=by
 funext t
 rw [z8]
 cases dst with
 | none=>rfl
 | some d=>simp only [pO,Option.some.injEq]
theorem lP {draw:Bool} {o:Oper} {m:MOp} (h:nE c.P c.nn draw ops o=some m):m.dst=o.dst/\aB7 ops o.guard=some m.g/\∀ d,o.dst=some d->c.lo<=d/\d < c.n:=by
 unfold nE at h
 split at h
 ·rename_i hd
  have hd':∀ d,o.dst=some d->c.lo<=d/\d < c.n:=by
   intro d hd2; rw [hd2] at hd; exact of_decide_eq_true hd
  split at h
  ·cases h
  ·rename_i g hg
   split at h
   ·obtain ⟨mo,_,rfl⟩:=Option.map_eq_some_iff.1 h; exact ⟨rfl,hg,hd'⟩
   ·split at h
    ·injection h with h; subst h; exact ⟨rfl,hg,hd'⟩
    ·obtain ⟨mo,_,rfl⟩:=Option.map_eq_some_iff.1 h; exact ⟨rfl,hg,hd'⟩
 ·cases h
def w3 (g:Option (Nat×Bool)) (E:Nat->SV):Option Bool :=
 match g with
 | none=>some true
 | some (t,want)=>match E t with
  | .d (.bool b)=>some (b == want)
  | .undef=>some false
  | _=>none
theorem rJ {o:Oper} {g:Option (Nat×Bool)} {E:Nat->SV} (h:aB7 ops o.guard=some g):m6 ops o E=w3 g E:=by
 unfold m6
 cases hg:o.guard with
 | none=>rw [hg] at h; injection h with h; subst h; rfl
 | some p =>
  obtain ⟨j,b⟩:=p
  rw [hg] at h
  simp only [aB7,Option.map_eq_some_iff] at h
  obtain ⟨t,ht,rfl⟩:=h
  simp only [ht,w3]
  cases E t with
  | d x=>cases x<;>rfl
  | _=>rfl
theorem nV:∀ (os:List Oper) (ms:List MOp) (s:St) (K:St->Prop),lB c.P c.nn true ops os=some ms->dS c.G ms s K ->
  yT c s.o C ops (fun E=>∃ e',K ⟨e',s.o⟩/\E=look e') os (look s.e)
 | [],ms,s,K,h,hx=>by
  injection h with h
  subst h
  exact ⟨s.e,hx,rfl⟩
 | o :: os,ms,s,K,h,hx=>by
  unfold lB at h
  split at h
  ·rename_i m ms' h1 h2
   injection h with h
   subst h
   obtain ⟨hd,hg,_⟩:=lP h1
   have heff:m.eff=false/\sV c.P true o.op=some m.op:=by
    unfold nE at h1
    split at h1
    ·split at h1
     ·cases h1
     ·simp only [if_true] at h1
      obtain ⟨mo,hmo,rfl⟩:=Option.map_eq_some_iff.1 h1
      exact ⟨rfl,hmo⟩
    ·cases h1
   have hw:=rJ (E:=look s.e) hg
   have yes:m6 ops o (look s.e)=some true->(mB c.G s m.eff m.op fun sv s'=>dS c.G ms' ⟨kE s'.e m.dst sv,s'.o⟩ K) ->
     ∃ s_1,YS c s.o C ops o (look s.e) s_1/\yT c s.o C ops (fun E=>∃ e',K ⟨e',s.o⟩/\E=look e') os (pO (look s.e) o.dst s_1):=by
    intro hwt hs
    rw [heff.1] at hs
    simp only [mB] at hs
    obtain ⟨sv,hK,hy⟩:=w8 (c:=c) (C:=C) heff.2 hs
    refine ⟨sv,.inl ⟨hwt,hy⟩,?_⟩
    rw [aBu,<-hd]
    exact nV os ms' ⟨kE s.e m.dst sv,s.o⟩ K h2 hK
   have no:m6 ops o (look s.e)=some false->dS c.G ms' ⟨kE s.e m.dst .undef,s.o⟩ K ->
     ∃ s_1,YS c s.o C ops o (look s.e) s_1/\yT c s.o C ops (fun E=>∃ e',K ⟨e',s.o⟩/\E=look e') os (pO (look s.e) o.dst s_1):=by
    intro hwt hs
    refine ⟨.undef,.inr ⟨hwt,rfl⟩,?_⟩
    rw [aBu,<-hd]
    exact nV os ms' ⟨kE s.e m.dst .undef,s.o⟩ K h2 hs
   unfold dS at hx
   show ∃ s_1,YS c s.o C ops o (look s.e) s_1/\_
   split at hx
   ·rename_i hgn
    rw [hgn] at hw
    simp only [w3] at hw
    exact yes hw hx
   ·rename_i t want hgs
    rw [hgs] at hw
    simp only [w3] at hw
    split at hx
    ·rename_i b hb
     rw [hb] at hw
     simp only [] at hw
     by_cases e:b=want
     ·exact yes (by rw [hw,e]; simp) (hx.1 e)
     ·have e':b=!want:=by cases b<;>cases want<;>simp_all
      exact no (by rw [hw,e']; cases want<;>rfl) (hx.2 e')
    ·rename_i hb
     rw [hb] at hw
     exact no hw hx
    ·exact hx.elim
  ·cases h
theorem Rel.done {s st:St} {C':List OC} {a:Act} {w w':World} {o:Oper} {sv:SV} {v:Value} (h:Rel c s C a w) (hd:∀ d,o.dst=some d->c.lo<=d/\d < c.n) (hv:cB w' (Ms c C') C' sv v) (hw:RelW c st.o C' w') (he:eP w' c C' st.e a) :
  Rel c ⟨kE st.e o.dst sv,st.o⟩ C' (a.put o.dst v) w' where
 tmps:=by rw [yN]; exact h.tmps
 defers:=by rw [tO]; exact h.defers
 env:=fun t=>by
  rw [z8,uD _ _ _ _ (by rw [h.tmps]; exact fun d e=>(hd d e).2)]
  by_cases e:o.dst=some t
  ·simp only [e,if_true]; exact hv
  ·simp only [e,if_false]; exact he t
 wd:=hw
 fix:=aBL h.tmps hd h.fix
theorem Rel.relE {s:St} {a:Act} {w:World} (h:Rel c s C a w):RelE c s.o C (look s.e) a w:=⟨h.tmps,h.defers,h.env,h.wd,h.fix⟩
theorem jJ {Q:Exit->Act->World->Prop} {K:St->Prop} (hQ:∀ s C a w,Rel c s C a w->K s->Q .normal a w):∀ (os:List Oper) (ms:List MOp) (s:St) (C:List OC) (a:Act) (w:World),lB c.P c.nn false ops os=some ms->Rel c s C a w->dS c.G ms s K ->
  wpList c.P ops Q os a w
 | [],ms,s,C,a,w,h,hr,hx=>by
  injection h with h
  subst h
  exact hQ _ _ _ _ hr hx
 | o :: os,ms,s,C,a,w,h,hr,hx=>by
  unfold lB at h
  split at h
  ·rename_i m ms' h1 h2
   injection h with h
   subst h
   obtain ⟨hd,hg,hdn⟩:=lP h1
   have hw:=rJ (E:=look s.e) hg
   have yes:m6 ops o (look s.e)=some true->(mB c.G s m.eff m.op fun sv s'=>dS c.G ms' ⟨kE s'.e m.dst sv,s'.o⟩ K)->wpList c.P ops Q (o :: os) a w:=by
    intro hwt hs
    have hwm:=jU hr.relE hwt
    simp only [wpList,hwm,if_true]
    left
    have goOn:∀ (R:Exit->Act->World->Prop),o.wp c.P a w (fun a' w'=>∃ s' C',dS c.G ms' s' K/\Rel c s' C' a' w') (fun _ _ _=>False)->o.wp c.P a w (wpList c.P ops Q os) R:=by
     intro R h3
     unfold Oper.wp at h3 ⊢
     generalize (execOp a.eval o).run c.P w=r at *
     have fin:∀ a' w',(∃ s' C',dS c.G ms' s' K/\Rel c s' C' a' w')->wpList c.P ops Q os a' w':=by
      rintro a' w' ⟨s',C',h4,h5⟩
      exact jJ hQ os ms' s' C' a' w' h2 h5 h4
     cases r with
     | ok n w' =>
      cases n<;>simp only [Oper.upon] at h3 ⊢<;>first
       | exact fin _ _ h3
       | exact h3.elim
       | skip
      ·exact h3.mono fun e w'' he=>by
        cases e with
        | returned v=>exact fin _ _ he
        | panicked ch=>exact he.elim
        | outgrown=>obtain ⟨_,_,he⟩:=he; exact he.elim
      ·exact h3.mono fun v w'' he=>fin _ _ he
     | halt x w' =>
      cases x<;>simp only [Oper.upon] at h3<;>exact h3.elim
    apply goOn
    unfold nE at h1
    split at h1
    ·split at h1
     ·cases h1
     ·simp only [Bool.false_eq_true,if_false] at h1
      split at h1
      ·rename_i mo hmo
       injection h1 with h1
       subst h1
       simp only [mB] at hs
       refine Oper.wp_mono ?_ (aCA hr hmo hs)
       rintro a' w' ⟨sv,st,C',v,hK,rfl,hv,hw',he⟩
       exact ⟨_,C',hK,hr.done hdn hv hw' he⟩
      ·obtain ⟨mo,hmo,rfl⟩:=Option.map_eq_some_iff.1 h1
       simp only [mB] at hs
       obtain ⟨sv,hK,hy⟩:=w8 (c:=c) (C:=C) hmo hs
       refine Oper.wp_mono ?_ (hy a w hr.wd (fun t _=>hr.env t))
       rintro a' w' ⟨v,rfl,hv,hx2⟩
       exact ⟨_,C,hK,hr.put hx2 hdn hv⟩
    ·cases h1
   have no:m6 ops o (look s.e)=some false->dS c.G ms' ⟨kE s.e m.dst .undef,s.o⟩ K->wpList c.P ops Q (o :: os) a w:=by
    intro hwt hs
    have hwm:=jU hr.relE hwt
    simp only [wpList,hwm,Bool.false_eq_true,if_false]
    refine jJ hQ os ms' _ C _ w h2 (hr.put (sv:=.undef) (dst:=o.dst) (kP.refl w) hdn rfl) ?_
    rw [<- hd]; exact hs
   unfold dS at hx
   split at hx
   ·rename_i hgn
    rw [hgn] at hw
    simp only [w3] at hw
    exact yes hw hx
   ·rename_i t want hgs
    rw [hgs] at hw
    simp only [w3] at hw
    split at hx
    ·rename_i b hb
     rw [hb] at hw
     simp only [] at hw
     by_cases e:b=want
     ·exact yes (by rw [hw,e]; simp) (hx.1 e)
     ·have e':b=!want:=by cases b<;>cases want<;>simp_all
      exact no (by rw [hw,e']; cases want<;>rfl) (hx.2 e')
    ·rename_i hb
     rw [hb] at hw
     exact no hw hx
    ·exact hx.elim
  ·cases h
end
end Go.Pe
set_option linter.all false
namespace Go.Pe
open Go Go.RowKit
def okB (w:World) (c:Ctx) (C:List OC) (R:List Nat) (b:Nat):Prop:=b < w.heap.size/\(¬ Ms c C b\/∃ r∈R,∃ oc,C[r]?=some oc/\b∈oc.fp)
def tP:SV->List Nat
 | .ptr r _ _=>[r]
 | .el r _ _ _ _=>[r]
 | _=>[]
theorem vX {w w':World} {a:Addr} (h:w'.heap[a.block]?=w.heap[a.block]?):w'.cell? a=w.cell? a:=by
 unfold World.cell?
 rw [h]
section
variable {c : Ctx} {ob : List Ob} {C : List OC} {K : SV -> Prop} {w : World}
theorem oM {P:Program} {t:TypeId} {agg:Option Nat} {y:D} (hl:aEj P t agg) (h:dY ob agg y K):∃ s,K s/\∀ (w:World) (M:Nat->Prop) (ad:Addr) (ds:List Value),RelW c ob C w ->
  (∃ f0,y.rep w M ds f0)->(ds=[]\/∀ j u,ds[j]?=some u->w.cell? (ad.add j)=some u)->∃ v,(Instr.loadAt t (.pointer (some ad))).run P w=.ok v w/\cB w M C s v/\∀ w':World,(∀ j u,ds[j]?=some u->w'.cell? (ad.add j)=some u)->(Instr.loadAt t (.pointer (some ad))).run P w'=.ok v w':=by
 cases agg with
 | none =>
  by_cases hlk:∃ q v,y=.lnk q v
  ·obtain ⟨q,v,rfl⟩:=hlk
   obtain ⟨r,h1,hK⟩:=h
   refine ⟨_,hK,fun w M ad ds hw ⟨f0,hr⟩ hc=>?_⟩
   obtain ⟨rfl,_,_⟩:=hr
   rcases hc with hc|hc
   ·cases hc
   ·have h0:=hc 0 v rfl
    obtain ⟨d,hu,hd⟩:=hl
    obtain ⟨oc,h2,h3⟩:=hw.tags q r v h1
    exact ⟨v,lK hu hd (by simpa [Addr.add] using h0),⟨oc,h2,h3.symm⟩,fun w' hk=>lK hu hd (by simpa [Addr.add] using hk 0 v rfl)⟩
  have hy:y.noOwn=true/\K (.d y)/\(∀ w M ds f0,y.rep w M ds f0->ds.length=1)/\(∀ cs,fD y cs=cs.headD Go.undef):=by
   cases y<;>simp only [dY] at h<;>first
    | exact h.elim
    | exact ⟨h.1,h.2,fun w M ds f0 hr=>b7 _ _ _ hr,fun _=>rfl⟩
    | exact absurd ⟨_,_,rfl⟩ hlk
  obtain ⟨hn,hK,hlen,hpk⟩:=hy
  refine ⟨_,hK,fun w M ad ds _ ⟨f0,hr⟩ hc=>?_⟩
  have h1:=hlen _ _ _ _ hr
  have hf:=kV _ _ _ hn hr
  subst hf
  match ds,h1 with
  | [u],_ =>
   rcases hc with hc|hc
   ·cases hc
   ·have h0:=hc 0 u rfl
    obtain ⟨d,hu,hd⟩:=hl
    refine ⟨u,lK hu hd (by simpa [Addr.add] using h0),⟨[u],hr,by rw [hpk]; rfl⟩,fun w' hk=>lK hu hd (by simpa [Addr.add] using hk 0 u rfl)⟩
 | some n =>
  cases y with
  | st xs =>
   obtain ⟨hs,hn,hK⟩:=h
   refine ⟨_,hK,fun w M ad ds _ ⟨f0,hr⟩ hc=>?_⟩
   have hf:=kV (.st xs) _ _ hn hr
   subst hf
   obtain ⟨fs,i,hu,hi,hsz⟩:=hl
   have hcc:∀ j u,ds[j]?=some u->w.cell? (ad.add j)=some u:=by
    rcases hc with hc|hc
    ·intro j u hu; rw [hc] at hu; simp at hu
    ·exact hc
   exact ⟨.agg ds.toArray,lN hu hi (by rw [b7 (.st xs) _ _ hr,hsz]; exact hs) hcc,⟨ds,hr,rfl⟩,fun w' hk=>lN hu hi (by rw [b7 (.st xs) _ _ hr,hsz]; exact hs) hk⟩
  | _=>exact h.elim
theorem aAR {t:TypeId} {agg:Option Nat} {x:SV} (hl:aEj c.P t agg) (h:j5 ob agg x K):∃ s,K s/\∀ (w:World) (u:Value),RelW c ob C w->cB w (Ms c C) C x u ->
  ∃ v,(Instr.loadAt t u).run c.P w=.ok v w/\cB w (Ms c C) C s v/\∃ B:Nat->Prop,(∀ b,B b->okB w c C (tP x) b)/\∀ w':World,(∀ b,B b->w'.heap[b]?=w.heap[b]?)->(Instr.loadAt t u).run c.P w'=.ok v w':=by
 unfold j5 at h
 split at h
 ·obtain ⟨s,hK,hs⟩:=oM (c:=c) (C:=C) hl h
  refine ⟨s,hK,fun w u hw hu=>?_⟩
  obtain ⟨ad,ds,rfl,hr,hh⟩:=nA hu
  obtain ⟨v,h1,h2,h3⟩:=hs w _ ad ds hw ⟨_,hr⟩ (hh.imp id fun h=>h.2.2)
  rcases hh with rfl|⟨hlt,hn,hcell⟩
  ·exact ⟨v,h1,h2,fun _=>False,fun b hb=>hb.elim,fun w' _=>h3 w' fun j u hu=>by simp at hu⟩
  ·exact ⟨v,h1,h2,fun b=>b=ad.block,fun b hb=>by subst hb; exact ⟨hlt,.inl hn⟩,fun w' hk=>h3 w' fun j u hu=>(vX (by rw [mV]; exact hk _ rfl)).trans (hcell j u hu)⟩
 ·rename_i r off p
  obtain ⟨z,hz,ho,y,hy,h⟩:=h
  obtain ⟨s,hK,hs⟩:=oM (c:=c) (C:=C) hl h
  refine ⟨s,hK,fun w u hw hu=>?_⟩
  obtain ⟨oc,hC,rfl⟩:=hu
  obtain ⟨cs,fps,⟨cur,E,h1,h2,h3⟩,h4,h5⟩:=hw.obs r _ oc hz hC
  obtain ⟨f0,_,hr,hle⟩:=rM p z cs fps y h4 hy
  have hcell:∀ j u,((cs.drop (eV p z)).take y.size)[j]?=some u->w.cell? ((⟨oc.blk,off,none⟩:Addr).add j)=some u:=by
   intro j u hu
   rw [add_lit,h1.cell (off + j)]
   rw [List.getElem?_take] at hu
   split at hu
   ·rw [List.getElem?_drop,ho] at hu
    rw [<- Array.getElem?_toList]
    have:cur.toList=cs:=by rw [<- h3,List.take_of_length_le (by simp [h2])]
    rw [this]; exact hu
   ·cases hu
  obtain ⟨v,k1,k2,k3⟩:=hs w _ _ _ hw ⟨_,hr⟩ (.inr hcell)
  have hbm:oc.blk∈oc.fp:=by rw [h5]; simp
  exact ⟨v,k1,k2,fun b=>b=oc.blk,fun b hb=>by subst hb; exact ⟨hw.lt _ (bP.2 ⟨r,oc,hC,hbm⟩),.inr ⟨r,by simp [tP],oc,hC,hbm⟩⟩,fun w' hk=>k3 w' fun j u hu=>(vX (by rw [mV]; exact hk _ rfl)).trans (hcell j u hu)⟩
 ·rename_i r es i off p
  obtain ⟨xs,z,hz,hi,ho,y,hy,h⟩:=h
  obtain ⟨s,hK,hs⟩:=oM (c:=c) (C:=C) hl h
  refine ⟨s,hK,fun w u hw hu=>?_⟩
  obtain ⟨oc,g,n,cp,hC,hov,rfl⟩:=hu
  obtain ⟨cs,h1,h2⟩:=hw.obs r _ oc hz hC
  rw [hov] at h2
  obtain ⟨hL,a',c',ds,fps,e1,e2,h3,h4⟩:=h1
  rw [e1] at h2
  simp only [fD,List.headD_cons] at h2
  injection h2 with ha hn hc
  subst ha hn hc
  simp only [if_true] at h4
  obtain ⟨l,rfl⟩:=kQ _ hL
  rw [nQ] at hi
  obtain ⟨f1,f,f2,_,_,hr,_⟩:=aBP ((iC l).1 hL) h3 hi
  obtain ⟨f0,_,hr2,hle⟩:=rM p z _ f y hr hy
  rcases h4 with ⟨h4,_⟩|⟨g',h4,⟨⟨cur,E,h5,h6,h7⟩,_⟩,hfp⟩
  ·have:=bC hi; rw [dH] at e2; omega
  ·injection h4 with h4
   injection h4 with h4
   subst h4
   have hcell:∀ j u,((((ds.drop (i * es)).take es).drop (eV p z)).take y.size)[j]?=some u->w.cell? ((⟨g,i * es + off,none⟩:Addr).add j)=some u:=by
    intro j u hu
    rw [add_lit,h5.cell (i * es + off + j)]
    rw [List.getElem?_take] at hu
    split at hu
    ·rw [List.getElem?_drop,ho,List.getElem?_take] at hu
     split at hu
     ·rw [List.getElem?_drop,<-h7,List.getElem?_take] at hu
      split at hu
      ·rw [<- Array.getElem?_toList,show i * es + off + j=i * es + (off + j) by omega]; exact hu
      ·cases hu
     ·cases hu
    ·cases hu
   obtain ⟨v,k1,k2,k3⟩:=hs w _ _ _ hw ⟨_,hr2⟩ (.inr hcell)
   have hbm:g∈oc.fp:=by rw [hfp]; simp
   exact ⟨v,k1,k2,fun b=>b=g,fun b hb=>by subst hb; exact ⟨hw.lt _ (bP.2 ⟨r,oc,hC,hbm⟩),.inr ⟨r,by simp [tP],oc,hC,hbm⟩⟩,fun w' hk=>k3 w' fun j u hu=>(vX (by rw [mV]; exact hk _ rfl)).trans (hcell j u hu)⟩
 ·exact h.elim
end
def iN {α:Type} (p:Program) (m:Sem α):Prop:=∀ w r w1,m.run p w=.ok r w1->w1=w/\∀ w',m.run p w'=.ok r w'
section
variable {p : Program} {α β : Type}
theorem b8 (a:α):iN p (pure a:Sem α):=fun w r w1 h=>by
 rw [Sem.run_pure] at h
 injection h with h1 h2
 subst h1 h2
 exact ⟨rfl,fun w'=>Sem.run_pure ..⟩
theorem cJ {m:Sem α} {f:α->Sem β} (h1:iN p m) (h2:∀ a,iN p (f a)):iN p (m >>= f):=fun w r w1 h=>by
 rw [Sem.run_bind] at h
 cases hm:m.run p w with
 | ok a w0 =>
  rw [hm,Result.andThen_ok] at h
  obtain ⟨rfl,h3⟩:=h1 w a w0 hm
  obtain ⟨rfl,h4⟩:=h2 a w0 r w1 h
  exact ⟨rfl,fun w'=>by rw [Sem.run_bind,h3 w',Result.andThen_ok,h4 w']⟩
 | halt x w0=>rw [hm] at h; cases h
theorem wO (h:Halt):iN p (Sem.halt h:Sem α):=fun w r w1 e=>by cases e
theorem dC (s:String):iN p (stuck s:Sem α):=wO _
theorem qO (u:Unsupported):iN p (unsupported u:Sem α):=wO _
theorem aBi:iN p (program:Sem Program):=fun w r w1 h=>by
 cases h
 exact ⟨rfl,fun w'=>rfl⟩
def Nev (p:Program) (m:Sem α):Prop:=∀ w r w1,m.run p w≠.ok r w1
theorem lC {m:Sem α} (h:Nev p m):iN p m:=fun w r w1 e=>absurd e (h w r w1)
theorem aAt (h:Halt):Nev p (Sem.halt h:Sem α):=fun w r w1 e=>by cases e
theorem uF {m:Sem α} {f:α->Sem β} (h:∀ a,Nev p (f a)):Nev p (m >>= f):=fun w r w1 e=>by
 rw [Sem.run_bind] at e
 cases hm:m.run p w with
 | ok a w0=>rw [hm,Result.andThen_ok] at e; exact h a _ _ _ e
 | halt x w0=>rw [hm] at e; cases e
theorem aSt {m:Sem α} {f:α->Sem β} (h:Nev p m):Nev p (m >>= f):=fun w r w1 e=>by
 rw [Sem.run_bind] at e
 cases hm:m.run p w with
 | ok a w0=>exact h _ _ _ hm
 | halt x w0=>rw [hm] at e; cases e
theorem aEh (e:RuntimeError):Nev p (runtimePanic e:Sem α):=by
 unfold runtimePanic
 refine uF fun q=>?_
 cases e<;>first|exact aAt _|exact uF fun _=>uF fun _=>aAt _
theorem y7 (k:IntKind) (x y:Int) (cd:BoundsCode):Nev p (boundsPanic k x y cd:Sem α):=by
 unfold boundsPanic
 simp only []
 split<;>exact uF fun _=>aEh _
theorem aHa (t:TypeId):iN p (typeInfo t):=by
 unfold typeInfo
 refine cJ aBi fun q=>?_
 split
 ·exact b8 _
 ·exact dC _
theorem vS (t:TypeId):iN p (sizeOf t):=by
 unfold sizeOf
 exact cJ (aHa t) fun i=>b8 _
theorem sY (t:TypeId):iN p (underlying t):=by
 unfold underlying
 refine cJ aBi fun q=>?_
 split
 ·exact b8 _
 ·exact dC _
theorem aGu (v:Value):iN p (Instr.sureAddr v):=by
 unfold Instr.sureAddr
 split
 ·exact b8 _
 ·exact dC _
theorem yQ (v:Value):iN p (asIntOf v):=by
 unfold asIntOf
 split
 ·exact b8 _
 ·exact qO _
 ·exact dC _
theorem aCz (v:Value):iN p (asBool v):=by
 unfold asBool
 split
 ·exact b8 _
 ·exact dC _
theorem pN (v:Value) (n:Nat) (cd:BoundsCode):iN p (Instr.sliceBound v n cd):=by
 unfold Instr.sliceBound
 refine cJ (yQ v) fun x=>?_
 obtain ⟨k,i⟩:=x
 simp only []
 split
 ·exact b8 _
 ·exact lC (y7 _ _ _ _)
theorem rO (b:Bool) (n cp:Nat) (lo hi:Option Value):iN p (Instr.sliceBounds b n cp lo hi none):=by
 unfold Instr.sliceBounds
 simp only []
 refine cJ (b8 _) fun m=>?_
 cases hi<;>cases lo<;>simp only []
 ·exact cJ (b8 _) fun _=>cJ (b8 _) fun _=>b8 _
 ·exact cJ (b8 _) fun _=>cJ (pN _ _ _) fun _=>b8 _
 ·exact cJ (pN _ _ _) fun _=>cJ (b8 _) fun _=>b8 _
 ·exact cJ (pN _ _ _) fun _=>cJ (pN _ _ _) fun _=>b8 _
theorem aBF (v:Value) (i:Nat):iN p (Instr.extract v i):=by
 unfold Instr.extract
 split
 ·split
  ·exact b8 _
  ·exact dC _
 ·exact dC _
theorem aEM (t:TypeId) (x i:Value):iN p (Instr.indexAt t x i):=by
 unfold Instr.indexAt
 refine cJ (yQ i) fun ki=>?_
 obtain ⟨k,n⟩:=ki
 simp only []
 refine cJ (sY t) fun d=>?_
 split
 ·refine cJ (aGu _) fun a=>?_
  refine cJ (b8 _) fun q=>?_
  obtain ⟨base,len,elem⟩:=q
  simp only []
  refine cJ (sY t) fun d2=>?_
  cases base with
  | none=>exact lC (y7 _ _ _ _)
  | some ad =>
   simp only []
   split
   ·exact cJ (vS _) fun _=>b8 _
   ·repeat' (first
     | exact qO _
     | exact lC (y7 _ _ _ _)
     | split)
 ·refine cJ (b8 _) fun q=>?_
  obtain ⟨base,len,elem⟩:=q
  simp only []
  refine cJ (sY t) fun d2=>?_
  cases base with
  | none=>exact lC (y7 _ _ _ _)
  | some ad =>
   simp only []
   split
   ·exact cJ (vS _) fun _=>b8 _
   ·repeat' (first
     | exact qO _
     | exact lC (y7 _ _ _ _)
     | split)
 ·exact lC (aSt (aAt _))
theorem z7 {t:TypeId} {d:TypeDesc} (ht:p.underlying t=some d) (hd:d=.string\/∃ e,d=.slice e) (x:Value) (lo hi:Option Value):iN p (Instr.sliceAt t x lo hi none):=by
 have e:∀ {α:Type} (f:TypeDesc->Sem α),iN p (f d)->iN p (underlying t >>= f):=fun f hf w r w1 h=>by
  rw [Sem.run_bind,run_underlying ht,Result.andThen_ok] at h
  obtain ⟨h1,h2⟩:=hf w r w1 h
  exact ⟨h1,fun w'=>by rw [Sem.run_bind,run_underlying ht,Result.andThen_ok]; exact h2 w'⟩
 unfold Instr.sliceAt
 refine e _ ?_
 rcases hd with rfl|⟨el,rfl⟩
 ·simp only []
  unfold Instr.slice
  simp only []
  refine e _ ?_
  cases x<;>simp only [Option.isSome_none,Bool.false_eq_true,if_false]<;>first
   | exact dC _
   | exact cJ (rO _ _ _ _ _) fun b=>b8 _
   | exact cJ (b8 _) fun _=>cJ (rO _ _ _ _ _) fun b=>b8 _
 ·simp only []
  unfold Instr.slice
  simp only []
  refine e _ ?_
  cases x<;>simp only []<;>first
   | exact dC _
   | exact cJ (rO _ _ _ _ _) fun b=>cJ (vS _) fun _=>b8 _
theorem aIk {t ty:TypeId} {d:TypeDesc} (ht:p.underlying t=some d) (hd:d=.string\/∃ e,d=.slice e) (x:Value):iN p (Builtin.len_ #[t] ty #[x]):=by
 have e:∀ {α:Type} (f:TypeDesc->Sem α),iN p (f d)->iN p (underlying t >>= f):=fun f hf w r w1 h=>by
  rw [Sem.run_bind,run_underlying ht,Result.andThen_ok] at h
  obtain ⟨h1,h2⟩:=hf w r w1 h
  exact ⟨h1,fun w'=>by rw [Sem.run_bind,run_underlying ht,Result.andThen_ok]; exact h2 w'⟩
 unfold Builtin.len_
 simp only [List.getElem?_toArray,List.getElem?_cons_zero]
 refine e _ ?_
 rcases hd with rfl|⟨el,rfl⟩<;>cases x<;>first|exact b8 _|exact dC _
theorem aFb {s:TypeId} {fs:Array Field} {fd:Field} {f:Nat} {inf:TypeInfo} (ht:p.underlying s=some (.struct fs)) (hf:fs[f]?=some fd) (hi:p.info? fd.type=some inf) (hz:inf.size≠0) (x:Value):iN p (Instr.fieldAt s x f):=by
 by_cases hx:∃ ad,x=.pointer (some ad)
 ·obtain ⟨ad,rfl⟩:=hx
  have hrun:∀ w:World,(Instr.fieldAt s (.pointer (some ad)) f).run p w=.ok (.pointer (some (ad.add fd.offset))) w:=by
   intro w
   simp [Instr.fieldAt,run_underlying ht,hf,Instr.sureAddr,fieldPlace,sizeOf,typeInfo,hi,hz]
  intro w r w1 h
  rw [hrun] at h
  injection h with h1 h2
  subst h1 h2
  exact ⟨rfl,hrun⟩
 ·refine lC fun w r w1 h=>?_
  obtain ⟨e0, this⟩ : ∃ e : String, (Instr.sureAddr x : Sem Addr) = stuck e := by
   unfold Instr.sureAddr
   split
   ·rename_i a; exact absurd ⟨_,rfl⟩ hx
   ·exact ⟨_, rfl⟩
  simp [Instr.fieldAt,run_underlying ht,hf,this,stuck] at h
theorem aAc (op:BinOp) (k:IntKind) (a b:Int):iN p (Op.intArith op k a b):=by
 unfold Op.intArith; split<;>first|exact b8 _|exact dC _
theorem aHU (op:BinOp) (k:IntKind) (a b:Int):iN p (Op.intDiv op k a b):=by
 unfold Op.intDiv
 split
 ·exact lC (aEh _)
 ·split<;>first|exact b8 _|exact dC _
theorem aBl (op:BinOp) (k:IntKind) (a b:Int):iN p (Op.intBits op k a b):=by
 unfold Op.intBits; simp only []; split<;>first|exact b8 _|exact dC _
theorem aHH (op:BinOp) (a b:Int):iN p (Op.intCmp op a b):=by
 unfold Op.intCmp; split<;>first|exact b8 _|exact dC _
theorem aEP (op:BinOp) (k:IntKind) (a:Int) (k':IntKind) (b:Int):iN p (Op.shift op k a k' b):=by
 unfold Op.shift
 split
 ·exact lC (aEh _)
 ·simp only []; split<;>first|exact b8 _|exact dC _
theorem aJj (op:BinOp) (a b:ByteArray):iN p (Op.stringOp op a b):=by
 unfold Op.stringOp
 simp only []
 split<;>first|exact b8 _|exact dC _|(split<;>first|exact b8 _|exact qO _|exact dC _|exact wO _)
theorem aEo (op:UnOp) (x:Value):iN p (Op.unary op x):=by
 unfold Op.unary
 split<;>first|exact aAc _ _ _ _|exact aBl _ _ _ _|exact b8 _|exact qO _|exact dC _
end
end Go.Pe
set_option linter.all false
namespace Go.Pe
open Go Go.RowKit
section
end
def pJ:MO->Bool
 | .mov _=>true
 | .pick _ _ _=>true
 | .bin _ _ _=>true
 | .un _ _=>true
 | .ld _ _=>true
 | .fa _ _ _=>true
 | .nck _=>true
 | .ia _ _ _=>true
 | .len _ _=>true
 | .ext _ _=>true
 | .sls _ _ _=>true
 | .slx _ _ _ _=>true
 | _=>false
def aPy (c:Ctx) (ob:List Ob) (C:List OC) (o:Oper) (E:Nat->SV) (s:SV):Prop :=
 ∀ a w,RelW c ob C w->wU c C o E a w->∃ v,(execOp a.eval o).run c.P w=.ok (.value v) w/\cB w (Ms c C) C s v
section
variable {c : Ctx} {ob : List Ob} {C : List OC} {o : Oper} {E : Nat -> SV} {K : SV -> Prop} {mo : MO}
theorem aF4 (hq:pJ mo=true) (hc:sV c.P true o.op=some mo) (h:dJ c.G ob E mo K):∃ s,K s/\aPy c ob C o E s:=by
 obtain ⟨dst,op,ty,pos,after,guard⟩:=o
 simp only at hc
 unfold sV at hc
 split at hc
 case h_1 x|h_2 x =>
  obtain ⟨p,hp,rfl⟩:=Option.map_eq_some_iff.1 hc
  exact ⟨_,h,fun a w hw ho=>⟨a.eval x,rfl,cZ ho (by simp [Op.operands]) hp⟩⟩
 case h_3 cc x y =>
  split at hc
  ·rename_i p q r h1 h2 h3
   injection hc with hc
   subst hc
   simp only [dJ] at h
   split at h
   ·rename_i t ht
    cases t with
    | true =>
     refine ⟨_,h.1 rfl,fun a w hw ho=>⟨a.eval x,?_,cZ ho (by simp [Op.operands]) h2⟩⟩
     have:=cZ ho (x:=cc) (by simp [Op.operands]) h1
     rw [ht] at this
     simp [execOp,cR.1 this,asBool]
    | false =>
     refine ⟨_,h.2 rfl,fun a w hw ho=>⟨a.eval y,?_,cZ ho (by simp [Op.operands]) h3⟩⟩
     have:=cZ ho (x:=cc) (by simp [Op.operands]) h1
     rw [ht] at this
     simp [execOp,cR.1 this,asBool]
   ·exact h.elim
  ·cases hc
 case h_4 t x y yt =>
  unfold xY at hc
  split at hc
  ·rename_i k p q hu h1 h2
   injection hc with hc
   subst hc
   obtain ⟨s,hK,hs⟩:=sU (c:=c) (C:=C) (t:=t) h
   refine ⟨s,hK,fun a w hw ho=>?_⟩
   obtain ⟨v,hv,hr⟩:=hs w _ _ _ x y (cZ ho (x:=x) (by simp [Op.operands]) h1) (cZ ho (x:=y) (by simp [Op.operands]) h2)
   exact ⟨v,by simp only [execOp,Sem.run_bind] at hv ⊢; rw [hv]; rfl,hr⟩
  ·cases hc
 case h_5 bop t x y yt hne =>
  unfold xU at hc
  split at hc
  ·rename_i k p q hu h1 h2
   injection hc with hc
   subst hc
   simp only [dJ,jR] at h
   split at h
   ·rename_i k1 a1 k2 a2 e1 e2
    obtain ⟨rfl,h⟩:=h
    obtain ⟨s,hK,hs⟩:=lT (c:=c) (C:=C) h
    refine ⟨s,hK,fun a w hw ho=>?_⟩
    have r1:=cZ ho (x:=x) (by simp [Op.operands]) h1
    have r2:=cZ ho (x:=y) (by simp [Op.operands]) h2
    rw [e1] at r1
    rw [e2] at r2
    obtain ⟨v,hv,hr⟩:=hs w (Ms c C) t x y
    rw [<- bZ.1 r1,<-bZ.1 r2] at hv
    exact ⟨v,by simp only [execOp,Sem.run_bind] at hv ⊢; rw [hv]; rfl,hr⟩
   ·rename_i a1 a2 e1 e2
    obtain ⟨s,hK,hs⟩:=lR (c:=c) (C:=C) h
    refine ⟨s,hK,fun a w hw ho=>?_⟩
    have r1:=cZ ho (x:=x) (by simp [Op.operands]) h1
    have r2:=cZ ho (x:=y) (by simp [Op.operands]) h2
    rw [e1] at r1
    rw [e2] at r2
    obtain ⟨v,hv,hr⟩:=hs w (Ms c C) t x y
    rw [<- c6.1 r1,<-c6.1 r2] at hv
    exact ⟨v,by simp only [execOp,Sem.run_bind] at hv ⊢; rw [hv]; rfl,hr⟩
   ·exact h.elim
  ·rename_i p q hu h1 h2
   injection hc with hc
   subst hc
   simp only [dJ,jR] at h
   split at h
   ·rename_i k1 a1 k2 a2 e1 e2
    obtain ⟨rfl,h⟩:=h
    obtain ⟨s,hK,hs⟩:=lT (c:=c) (C:=C) h
    refine ⟨s,hK,fun a w hw ho=>?_⟩
    have r1:=cZ ho (x:=x) (by simp [Op.operands]) h1
    have r2:=cZ ho (x:=y) (by simp [Op.operands]) h2
    rw [e1] at r1
    rw [e2] at r2
    obtain ⟨v,hv,hr⟩:=hs w (Ms c C) t x y
    rw [<- bZ.1 r1,<-bZ.1 r2] at hv
    exact ⟨v,by simp only [execOp,Sem.run_bind] at hv ⊢; rw [hv]; rfl,hr⟩
   ·rename_i a1 a2 e1 e2
    obtain ⟨s,hK,hs⟩:=lR (c:=c) (C:=C) h
    refine ⟨s,hK,fun a w hw ho=>?_⟩
    have r1:=cZ ho (x:=x) (by simp [Op.operands]) h1
    have r2:=cZ ho (x:=y) (by simp [Op.operands]) h2
    rw [e1] at r1
    rw [e2] at r2
    obtain ⟨v,hv,hr⟩:=hs w (Ms c C) t x y
    rw [<- c6.1 r1,<-c6.1 r2] at hv
    exact ⟨v,by simp only [execOp,Sem.run_bind] at hv ⊢; rw [hv]; rfl,hr⟩
   ·exact h.elim
  ·rename_i p q hu h1 h2
   injection hc with hc
   subst hc
   simp only [dJ,qQ] at h
   split at h
   ·rename_i a1 a2 e1 e2
    obtain ⟨s,hK,hs⟩:=rF (c:=c) (C:=C) hu h
    refine ⟨s,hK,fun a w hw ho=>?_⟩
    have r1:=cZ ho (x:=x) (by simp [Op.operands]) h1
    have r2:=cZ ho (x:=y) (by simp [Op.operands]) h2
    rw [e1] at r1
    rw [e2] at r2
    obtain ⟨v,hv,hr⟩:=hs w (Ms c C) x y
    rw [<- cR.1 r1,<-cR.1 r2] at hv
    exact ⟨v,by simp only [execOp,Sem.run_bind] at hv ⊢; rw [hv]; rfl,hr⟩
   ·exact h.elim
  ·rename_i ms p q hu h1 h2
   split at hc
   ·split at hc
    ·rename_i hms
     injection hc with hc
     subst hc
     simp only [dJ] at h
     obtain ⟨s,hK,hs⟩:=uU (c:=c) (C:=C) (by rw [hms]; exact hu) h
     refine ⟨s,hK,fun a w hw ho=>?_⟩
     obtain ⟨v,hv,hr⟩:=hs w (Ms c C) x _ _ _ rfl (cZ ho (x:=x) (by simp [Op.operands]) h1) (cZ ho (x:=.const .nilIface) (by simp [Op.operands]) h2)
     exact ⟨v,by simp only [execOp,Sem.run_bind] at hv ⊢; rw [hv]; rfl,hr⟩
    ·cases hc
   ·cases hc
  ·obtain ⟨neg,ks,rfl⟩:=wI hc
   cases hq
  ·cases hc
 case h_6 uop t x =>
  obtain ⟨p,hp,rfl⟩:=Option.map_eq_some_iff.1 hc
  obtain ⟨s,hK,hs⟩:=uP (C:=C) (c:=c) h
  refine ⟨s,hK,fun a w hw ho=>?_⟩
  obtain ⟨v,hv,hr⟩:=hs w _ _ (cZ ho (x:=x) (by simp [Op.operands]) hp)
  exact ⟨v,by simp only [execOp,Sem.run_bind]; rw [hv]; rfl,hr⟩
 case h_7 x =>
  obtain ⟨p,hp,rfl⟩:=Option.map_eq_some_iff.1 hc
  simp only [dJ] at h
  split at h
  ·rename_i y e
   refine ⟨_,h,fun a w hw ho=>?_⟩
   have r:=cZ ho (x:=x) (by simp [Op.operands]) hp
   rw [e] at r
   obtain ⟨ad,ds,hv,h1,h2⟩:=nA r
   exact ⟨a.eval x,by simp only [execOp,hv]; rfl,r⟩
  ·rename_i r off p' e
   refine ⟨_,h,fun a w hw ho=>?_⟩
   have r:=cZ ho (x:=x) (by simp [Op.operands]) hp
   rw [e] at r
   have r':=r
   obtain ⟨oc,h1,hv⟩:=r
   exact ⟨a.eval x,by simp only [execOp,hv]; rfl,r'⟩
  ·rename_i r es i off p' e
   refine ⟨_,h,fun a w hw ho=>?_⟩
   have r:=cZ ho (x:=x) (by simp [Op.operands]) hp
   rw [e] at r
   have r':=r
   obtain ⟨oc,g,n,cp,h1,h2,hv⟩:=r
   exact ⟨a.eval x,by simp only [execOp,hv]; rfl,r'⟩
  ·rename_i g xs e
   refine ⟨_,h,fun a w hw ho=>?_⟩
   have r:=cZ ho (x:=x) (by simp [Op.operands]) hp
   rw [e] at r
   have r':=r
   obtain ⟨cs,⟨_,ds,h1,_⟩,hv⟩:=r
   rw [h1] at hv
   exact ⟨a.eval x,by simp only [execOp,hv]; rfl,r'⟩
  ·exact h.elim
 case h_8 t x =>
  obtain ⟨agg,p,rfl,hp,hl⟩:=(wD hc).resolve_right (by rintro ⟨n,p,rfl,_⟩; cases hq)
  obtain ⟨s,hK,hs⟩:=mM (C:=C) hl h
  refine ⟨s,hK,fun a w hw ho=>?_⟩
  obtain ⟨v,hv,hr⟩:=hs w _ hw (cZ ho (x:=x) (by simp [Op.operands]) hp)
  exact ⟨v,by simp only [execOp,Sem.run_bind]; rw [hv]; rfl,hr⟩
 case h_9 st x f =>
  unfold aBQ at hc
  split at hc
  ·rename_i fs p hu hp
   split at hc
   ·rename_i fd hf
    split at hc
    ·rename_i n hn
     injection hc with hc
     subst hc
     simp only [dE,Option.map_eq_some_iff] at hn
     obtain ⟨inf,hi,hsz⟩:=hn
     obtain ⟨s,hK,hs⟩:=uC (c:=c) (C:=C) hu hf hi (by omega) h
     refine ⟨s,hK,fun a w hw ho=>?_⟩
     obtain ⟨v,hv,hr⟩:=hs w _ (cZ ho (x:=x) (by simp [Op.operands]) hp)
     exact ⟨v,by simp only [execOp,Sem.run_bind]; rw [hv]; rfl,hr⟩
    ·cases hc
   ·cases hc
  ·cases hc
 case h_10 t x i =>
  unfold aES at hc
  split at hc
  ·rename_i e p q hu h1 h2
   obtain ⟨n,hn,rfl⟩:=Option.map_eq_some_iff.1 hc
   simp only [dE,Option.map_eq_some_iff] at hn
   obtain ⟨inf,hi,rfl⟩:=hn
   obtain ⟨s,hK,hs⟩:=uR (C:=C) hu hi h
   refine ⟨s,hK,fun a w hw ho=>?_⟩
   obtain ⟨v,hv,hr⟩:=hs w _ _ hw (cZ ho (x:=x) (by simp [Op.operands]) h1) (cZ ho (x:=i) (by simp [Op.operands]) h2)
   exact ⟨v,by simp only [execOp,Sem.run_bind]; rw [hv]; rfl,hr⟩
  ·obtain ⟨n,hn,rfl⟩:=Option.map_eq_some_iff.1 hc
   cases hq
  ·cases hc
 case h_11 t x i =>
  unfold aBU at hc
  split at hc
  ·rename_i p q hu h1 h2
   injection hc with hc
   subst hc
   obtain ⟨s,hK,hs⟩:=vB (c:=c) (C:=C) hu h
   refine ⟨s,hK,fun a w hw ho=>?_⟩
   obtain ⟨v,hv,hr⟩:=hs w _ _ (cZ ho (x:=x) (by simp [Op.operands]) h1) (cZ ho (x:=i) (by simp [Op.operands]) h2)
   exact ⟨v,by simp only [execOp,Sem.run_bind]; rw [hv]; rfl,hr⟩
  ·cases hc
 case h_12 x i =>
  obtain ⟨p,hp,rfl⟩:=Option.map_eq_some_iff.1 hc
  obtain ⟨s,hK,hs⟩:=sL (c:=c) (C:=C) h
  refine ⟨s,hK,fun a w hw ho=>?_⟩
  obtain ⟨v,hv,hr⟩:=hs w _ _ (cZ ho (x:=x) (by simp [Op.operands]) hp)
  exact ⟨v,by simp only [execOp,Sem.run_bind]; rw [hv]; rfl,hr⟩
 case h_13 src dst' x =>
  unfold uA at hc
  split at hc
  ·rename_i e p h1 h2 hp
   split at hc
   ·rename_i he
    injection hc with hc
    subst hc
    obtain ⟨s,hK,hs⟩:=sS (c:=c) (C:=C) h1 he h2 h
    refine ⟨s,hK,fun a w hw ho=>?_⟩
    obtain ⟨v,hv,hr⟩:=hs w _ hw (cZ ho (x:=x) (by simp [Op.operands]) hp)
    exact ⟨v,by simp only [execOp,Sem.run_bind]; rw [hv]; rfl,hr⟩
   ·cases hc
  ·rename_i j k p h1 h2 hp
   injection hc with hc
   subst hc
   obtain ⟨s,hK,hs⟩:=q8 (c:=c) (C:=C) h1 h2 h
   refine ⟨s,hK,fun a w hw ho=>?_⟩
   obtain ⟨v,hv,hr⟩:=hs w _ _ (cZ ho (x:=x) (by simp [Op.operands]) hp)
   exact ⟨v,by simp only [execOp,Sem.run_bind]; rw [hv]; rfl,hr⟩
  ·cases hc
 case h_14 t x lo hi =>
  unfold aBW at hc
  split at hc
  ·rename_i p l r hu hp hl hr
   injection hc with hc
   subst hc
   obtain ⟨s,hK,hs⟩:=sN (c:=c) (C:=C) hu h
   refine ⟨s,hK,fun a w hw ho=>?_⟩
   have side:∀ (y:Option Operand) (q:Option Opd),aGT y=some q->(∀ z,y=some z->z∈(Op.slice t x lo hi none).operands) ->
     (∀ z,qJ E q=some z->∃ v,y.map a.eval=some v/\cB w (Ms c C) C z v)/\(qJ E q=none->y.map a.eval=none):=by
    intro y q hq hm
    cases y with
    | none=>injection hq with hq; subst hq; exact ⟨fun z hz=>(by cases hz),fun _=>rfl⟩
    | some y =>
     obtain ⟨q',hq',rfl⟩:=Option.map_eq_some_iff.1 hq
     refine ⟨fun z hz=>?_,fun hz=>(by cases hz)⟩
     injection hz with hz
     subst hz
     exact ⟨_,rfl,cZ ho (hm y rfl) hq'⟩
   obtain ⟨l1,l2⟩:=side lo l hl (by rintro z rfl; simp [Op.operands])
   obtain ⟨r1,r2⟩:=side hi r hr (by rintro z rfl; simp [Op.operands])
   obtain ⟨v,hv,hr⟩:=hs w _ _ (lo.map a.eval) (hi.map a.eval) (cZ ho (x:=x) (by simp [Op.operands]) hp) l1 l2 r1 r2
   exact ⟨v,by simp only [execOp,Sem.run_bind,Option.map_none]; rw [hv]; rfl,hr⟩
  ·rename_i e p l r hu hp hl hr
   obtain ⟨n,hn,hc⟩:=Option.map_eq_some_iff.1 hc
   subst hc
   obtain ⟨inf,hinf,rfl⟩:=Option.map_eq_some_iff.1 hn
   obtain ⟨s,hK,hs⟩:=oJ (c:=c) (C:=C) hu hinf h
   refine ⟨s,hK,fun a w hw ho=>?_⟩
   have side:∀ (y:Option Operand) (q:Option Opd),aGT y=some q->(∀ z,y=some z->z∈(Op.slice t x lo hi none).operands) ->
     (∀ z,qJ E q=some z->∃ v,y.map a.eval=some v/\cB w (Ms c C) C z v)/\(qJ E q=none->y.map a.eval=none):=by
    intro y q hq hm
    cases y with
    | none=>injection hq with hq; subst hq; exact ⟨fun z hz=>(by cases hz),fun _=>rfl⟩
    | some y =>
     obtain ⟨q',hq',rfl⟩:=Option.map_eq_some_iff.1 hq
     refine ⟨fun z hz=>?_,fun hz=>(by cases hz)⟩
     injection hz with hz
     subst hz
     exact ⟨_,rfl,cZ ho (hm y rfl) hq'⟩
   obtain ⟨l1,l2⟩:=side lo l hl (by rintro z rfl; simp [Op.operands])
   obtain ⟨r1,r2⟩:=side hi r hr (by rintro z rfl; simp [Op.operands])
   obtain ⟨v,hv,hr⟩:=hs w _ (lo.map a.eval) (hi.map a.eval) hw (cZ ho (x:=x) (by simp [Op.operands]) hp) l1 l2 r1 r2
   exact ⟨v,by simp only [execOp,Sem.run_bind,Option.map_none]; rw [hv]; rfl,hr⟩
  ·cases hc
 case h_15 t x lo hi m =>
  unfold xO at hc
  split at hc
  ·rename_i e p hu hp
   split at hc
   ·rename_i k1 k2 hm
    split at hc
    ·rename_i hz
     obtain ⟨n,hn,hc⟩:=Option.map_eq_some_iff.1 hc
     subst hc
     obtain ⟨inf,hinf,rfl⟩:=Option.map_eq_some_iff.1 hn
     injection hm with hm
     subst hm
     obtain ⟨s,hK,hs⟩:=sJ (c:=c) (C:=C) hu hinf h
     refine ⟨s,hK,fun a w hw ho=>?_⟩
     have hl:lo.map a.eval=none\/∃ k,lo.map a.eval=some (.int k 0):=by
      unfold zero? at hz
      split at hz
      ·exact .inl rfl
      ·exact .inr ⟨_,rfl⟩
      ·cases hz
     obtain ⟨v,hv,hr⟩:=hs w _ (lo.map a.eval) hw (cZ ho (x:=x) (by simp [Op.operands]) hp) hl k1 k2
     exact ⟨v,by simp only [execOp,Sem.run_bind,Option.map_some]; simp only [Act.eval] at hv ⊢; rw [hv]; rfl,hr⟩
    ·cases hc
   ·cases hc
  ·cases hc
 case h_16 g caps =>
  obtain ⟨ps,hps,rfl⟩:=Option.map_eq_some_iff.1 hc
  simp only [dJ] at h
  split at h
  ·rename_i xs hx
   refine ⟨_,h,fun a w hw ho=>?_⟩
   obtain ⟨hl,hv⟩:=rH (C:=C) (E:=E) (a:=a) (w:=w) caps.toList ps hps (fun t ht=>ho t (by simpa [Op.operands] using ht))
   have hcap:=vK (w:=w) (M:=Ms c C) (C:=C) (ps.map (gF E)) (caps.toList.map a.eval) xs hx hl hv
   refine ⟨.func (.func g) #[] (caps.map a.eval),by simp [execOp,Instr.makeFunc],[.func (.func g) #[] (caps.map a.eval)],⟨rfl,caps.toList.map a.eval,?_,hcap⟩,rfl⟩
   have:Array.map a.eval caps=(caps.toList.map a.eval).toArray:=by apply Array.ext'; simp
   rw [this]
  ·exact h.elim
 case h_17 t xs ts =>
  obtain ⟨ps,hps,rfl⟩:=Option.map_eq_some_iff.1 hc
  simp [pJ] at hq
 case h_18 xs ts =>
  unfold xP at hc
  split at hc
  ·rename_i t x
   have fin:∀ p str,lQ x=some p->jW ob str (gF E p) K->(if str then c.P.underlying t=some .string else ∃ e,c.P.underlying t=some (.slice e)) ->
     ∃ s,K s/\aPy c ob C { dst:=dst,op:=.call { callee:=.builtin .len,args:=#[x],argTypes:=#[t] },type:=ty,pos:=pos,after:=after,guard:=guard } E s:=by
    intro p str hp h hu
    obtain ⟨s,hK,hs⟩:=sR (C:=C) (ty:=ty) hu h
    refine ⟨s,hK,fun a w hw ho=>?_⟩
    obtain ⟨v,hv,hr⟩:=hs w _ hw (cZ ho (x:=x) (by simp [Op.operands,Call.operands]) hp)
    refine ⟨v,?_,hr⟩
    simp only [execOp,resolve,Sem.run_bind,Sem.run_pure,Result.andThen_ok,invoke,builtin,List.map_toArray,List.map_cons,List.map_nil]
    rw [hv]; rfl
   split at hc
   ·rename_i p hu hp
    injection hc with hc
    subst hc
    exact fin _ _ hp h (by simpa using hu)
   ·rename_i e p hu hp
    injection hc with hc
    subst hc
    exact fin _ _ hp h (by simpa using ⟨e,hu⟩)
   ·cases hc
  ·cases hc
 case h_19 xs ts =>
  unfold tY at hc
  split at hc
  ·rename_i x y
   split at hc
   ·rename_i p q h1 h2
    injection hc with hc
    subst hc
    obtain ⟨s,hK,hs⟩:=mR (c:=c) (C:=C) (ts:=ts) (ty:=ty) h
    refine ⟨s,hK,fun a w hw ho=>?_⟩
    obtain ⟨v,hv,hr⟩:=hs w _ _ _ (cZ ho (x:=x) (by simp [Op.operands,Call.operands]) h1) (cZ ho (x:=y) (by simp [Op.operands,Call.operands]) h2)
    refine ⟨v,?_,hr⟩
    simp only [if_true] at hv
    simp only [execOp,resolve,Sem.run_bind,Sem.run_pure,Result.andThen_ok,invoke,builtin,List.map_toArray,List.map_cons,List.map_nil]
    rw [hv]; rfl
   ·cases hc
  ·cases hc
 case h_20 xs ts =>
  unfold tY at hc
  split at hc
  ·rename_i x y
   split at hc
   ·rename_i p q h1 h2
    injection hc with hc
    subst hc
    obtain ⟨s,hK,hs⟩:=mR (c:=c) (C:=C) (ts:=ts) (ty:=ty) h
    refine ⟨s,hK,fun a w hw ho=>?_⟩
    obtain ⟨v,hv,hr⟩:=hs w _ _ _ (cZ ho (x:=x) (by simp [Op.operands,Call.operands]) h1) (cZ ho (x:=y) (by simp [Op.operands,Call.operands]) h2)
    refine ⟨v,?_,hr⟩
    simp only [Bool.false_eq_true,if_false] at hv
    simp only [execOp,resolve,Sem.run_bind,Sem.run_pure,Result.andThen_ok,invoke,builtin,List.map_toArray,List.map_cons,List.map_nil]
    rw [hv]; rfl
   ·cases hc
  ·cases hc
 case h_21 f xs ts =>
  unfold pC at hc
  split at hc
  ·split at hc
   ·injection hc with hc
    simp only [if_true] at hc
    subst hc
    simp [pJ] at hq
   ·cases hc
  ·cases hc
 case h_22=>cases hc
end
end Go.Pe
set_option linter.all false
namespace Go.Pe
open Go Go.RowKit
def xA:MO->Bool
 | .ld _ _=>true
 | _=>false
def y8 (E:Nat->SV):MO->List Nat
 | .ld _ x=>tP (gF E x)
 | _=>[]
theorem aD5 {p:Program} (op:BinOp) (t:TypeId) (x y:Operand) (a b:Value) (h:(∃ k n k' m,a=.int k n/\b=.int k' m)\/∃ s s',a=.string s/\b=.string s'):iN p (eqGuard op t x y a b):=by
 unfold eqGuard
 rcases h with ⟨k,n,k',m,rfl,rfl⟩|⟨s,s',rfl,rfl⟩<;>split<;>exact b8 _
theorem aG7 {p:Program} (op:BinOp) (t:TypeId) (k k':IntKind) (a b:Int):iN p (binOp op t (.int k a) (.int k' b)):=by
 unfold binOp
 split
 all_goals first
  | contradiction
  |(rename_i e1 e2; injection e1; done)
  | skip
 all_goals first
  |(rename_i e1 e2
    injection e1 with e3 e4
    injection e2 with e5 e6
    subst e3 e4 e5 e6
    exact aEP _ _ _ _ _)
  | skip
 all_goals first
  |(split
    ·exact dC _
    ·split<;>first|exact aAc _ _ _ _|exact aHU _ _ _ _|exact aBl _ _ _ _|exact aHH _ _ _)
  | exact dC _
theorem aHb {p:Program} (op:BinOp) (t:TypeId) (a b:ByteArray):iN p (binOp op t (.string a) (.string b)):=by
 have:binOp op t (.string a) (.string b)=Op.stringOp op a b:=by cases op<;>rfl
 rw [this]; exact aJj _ _ _
section
variable {c : Ctx} {ob : List Ob} {C : List OC} {o : Oper} {E : Nat -> SV} {K : SV -> Prop} {mo : MO}
theorem aPl (hq:pJ mo=true) (hc:sV c.P true o.op=some mo) (h:dJ c.G ob E mo K):∃ s,K s/\∀ a w,RelW c ob C w->wU c C o E a w ->
  ∃ v,(execOp a.eval o).run c.P w=.ok (.value v) w/\cB w (Ms c C) C s v/\∃ B:Nat->Prop,(∀ b,B b->okB w c C (y8 E mo) b)/\(xA mo=false->∀ b,¬ B b)/\∀ w':World,(∀ b,B b->w'.heap[b]?=w.heap[b]?)->(execOp a.eval o).run c.P w'=.ok (.value v) w':=by
 have hrun:=aF4 (C:=C) hq hc h
 have fin:(∀ a w,RelW c ob C w->wU c C o E a w->iN c.P (execOp a.eval o))->∃ s,K s/\∀ a w,RelW c ob C w->wU c C o E a w ->
   ∃ v,(execOp a.eval o).run c.P w=.ok (.value v) w/\cB w (Ms c C) C s v/\∃ B:Nat->Prop,(∀ b,B b->okB w c C (y8 E mo) b)/\(xA mo=false->∀ b,¬ B b)/\∀ w':World,(∀ b,B b->w'.heap[b]?=w.heap[b]?)->(execOp a.eval o).run c.P w'=.ok (.value v) w':=by
  intro hf
  obtain ⟨s,hK,hs⟩:=hrun
  refine ⟨s,hK,fun a w hw ho=>?_⟩
  obtain ⟨v,h1,h2⟩:=hs a w hw ho
  exact ⟨v,h1,h2,fun _=>False,fun b hb=>hb.elim,fun _ _ h=>h,fun w' _=>(hf a w hw ho w _ _ h1).2 w'⟩
 obtain ⟨dst,op,ty,pos,after,guard⟩:=o
 simp only at hc
 unfold sV at hc
 split at hc
 case h_1 x|h_2 x=>exact fin fun a w hw ho=>b8 _
 case h_3 cc x y=>exact fin fun a w hw ho=>cJ (aCz _) fun b=>b8 _
 case h_4 t x y yt =>
  unfold xY at hc
  split at hc
  ·injection hc with hc; subst hc; cases hq
  ·cases hc
 case h_5 bop t x y yt hne =>
  unfold xU at hc
  have fb:∀ p q,lQ x=some p->lQ y=some q->jR bop (gF E p) (gF E q) K->∀ a w,RelW c ob C w->wU c C { dst:=dst,op:=.binOp bop t x y yt,type:=ty,pos:=pos,after:=after,guard:=guard } E a w->iN c.P (execOp a.eval { dst:=dst,op:=.binOp bop t x y yt,type:=ty,pos:=pos,after:=after,guard:=guard }):=by
   intro p q h1 h2 h a w hw ho
   have r1:=cZ ho (x:=x) (by simp [Op.operands]) h1
   have r2:=cZ ho (x:=y) (by simp [Op.operands]) h2
   simp only [jR] at h
   split at h
   ·rename_i k1 a1 k2 a2 e1 e2
    rw [e1] at r1
    rw [e2] at r2
    have v1:=bZ.1 r1
    have v2:=bZ.1 r2
    simp only [execOp,v1,v2]
    exact cJ (cJ (aD5 _ _ _ _ _ _ (.inl ⟨_,_,_,_,rfl,rfl⟩)) fun _=>aG7 _ _ _ _ _ _) fun _=>b8 _
   ·rename_i a1 a2 e1 e2
    rw [e1] at r1
    rw [e2] at r2
    have v1:=c6.1 r1
    have v2:=c6.1 r2
    simp only [execOp,v1,v2]
    exact cJ (cJ (aD5 _ _ _ _ _ _ (.inr ⟨_,_,rfl,rfl⟩)) fun _=>aHb _ _ _ _) fun _=>b8 _
   ·exact h.elim
  split at hc
  ·rename_i k p q hu h1 h2
   injection hc with hc
   subst hc
   exact fin (fb p q h1 h2 h)
  ·rename_i p q hu h1 h2
   injection hc with hc
   subst hc
   exact fin (fb p q h1 h2 h)
  ·injection hc with hc; subst hc; cases hq
  ·split at hc
   ·split at hc
    ·injection hc with hc; subst hc; cases hq
    ·cases hc
   ·cases hc
  ·obtain ⟨neg,ks,rfl⟩:=wI hc
   cases hq
  ·cases hc
 case h_6 uop t x=>exact fin fun a w hw ho=>cJ (aEo _ _) fun b=>b8 _
 case h_7 x =>
  obtain ⟨p,hp,rfl⟩:=Option.map_eq_some_iff.1 hc
  refine fin fun a w hw ho=>?_
  have r:=cZ ho (x:=x) (by simp [Op.operands]) hp
  simp only [dJ] at h
  split at h
  ·rename_i y e
   rw [e] at r
   obtain ⟨ad,ds,hv,h1,h2⟩:=nA r
   simp only [execOp,hv]
   exact b8 _
  ·rename_i r' off p' e
   rw [e] at r
   obtain ⟨oc,h1,hv⟩:=r
   simp only [execOp,hv]
   exact b8 _
  ·rename_i r' es i off p' e
   rw [e] at r
   obtain ⟨oc,g,n,cp,h1,h2,hv⟩:=r
   simp only [execOp,hv]
   exact b8 _
  ·rename_i g xs e
   rw [e] at r
   obtain ⟨cs,⟨_,ds,h1,_⟩,hv⟩:=r
   rw [h1] at hv
   simp only [execOp,hv]
   exact b8 _
  ·exact h.elim
 case h_8 t x =>
  obtain ⟨agg,p,rfl,hp,hl⟩:=(wD hc).resolve_right (by rintro ⟨n,p,rfl,_⟩; cases hq)
  obtain ⟨s,hK,hs⟩:=aAR (C:=C) hl h
  refine ⟨s,hK,fun a w hw ho=>?_⟩
  obtain ⟨v,hv,hr,B,hB,hw'⟩:=hs w _ hw (cZ ho (x:=x) (by simp [Op.operands]) hp)
  refine ⟨v,by simp only [execOp,Sem.run_bind]; rw [hv]; rfl,hr,B,hB,(fun h=>by cases h),fun w' hk=>?_⟩
  simp only [execOp,Sem.run_bind]; rw [hw' w' hk]; rfl
 case h_9 st x f =>
  unfold aBQ at hc
  split at hc
  ·rename_i fs p hu hp
   split at hc
   ·rename_i fd hf
    split at hc
    ·rename_i n hn
     injection hc with hc
     subst hc
     simp only [dE,Option.map_eq_some_iff] at hn
     obtain ⟨inf,hi,hsz⟩:=hn
     exact fin fun a w hw ho=>cJ (aFb hu hf hi (by omega) _) fun _=>b8 _
    ·cases hc
   ·cases hc
  ·cases hc
 case h_10 t x i=>exact fin fun a w hw ho=>cJ (aEM _ _ _) fun _=>b8 _
 case h_11 t x i =>
  unfold aBU at hc
  split at hc
  ·injection hc with hc; subst hc; cases hq
  ·cases hc
 case h_12 x i=>exact fin fun a w hw ho=>cJ (aBF _ _) fun _=>b8 _
 case h_13 src dst' x =>
  unfold uA at hc
  split at hc
  ·split at hc
   ·injection hc with hc; subst hc; cases hq
   ·cases hc
  ·injection hc with hc; subst hc; cases hq
  ·cases hc
 case h_14 t x lo hi =>
  unfold aBW at hc
  split at hc
  ·rename_i p l r hu hp hl hr
   exact fin fun a w hw ho=>cJ (z7 hu (.inl rfl) _ _ _) fun _=>b8 _
  ·rename_i e p l r hu hp hl hr
   exact fin fun a w hw ho=>cJ (z7 hu (.inr ⟨e,rfl⟩) _ _ _) fun _=>b8 _
  ·cases hc
 case h_15 t x lo hi m =>
  unfold xO at hc
  split at hc
  ·split at hc
   ·split at hc
    ·obtain ⟨n,hn,hc⟩:=Option.map_eq_some_iff.1 hc
     subst hc; cases hq
    ·cases hc
   ·cases hc
  ·cases hc
 case h_16 g caps =>
  obtain ⟨ps,hps,rfl⟩:=Option.map_eq_some_iff.1 hc
  cases hq
 case h_17 t xs ts =>
  obtain ⟨ps,hps,rfl⟩:=Option.map_eq_some_iff.1 hc
  simp [pJ] at hq
 case h_18 xs ts =>
  unfold xP at hc
  split at hc
  ·rename_i t x
   have fl:∀ d,c.P.underlying t=some d->(d=.string\/∃ e,d=.slice e)->∀ a:Act,iN c.P (execOp a.eval { dst:=dst,op:=.call { callee:=.builtin .len,args:=#[x],argTypes:=#[t] },type:=ty,pos:=pos,after:=after,guard:=guard }):=by
    intro d hu hd a w r w1 hr
    simp only [execOp,resolve,Sem.run_bind,Sem.run_pure,Result.andThen_ok,invoke,builtin,List.map_toArray,List.map_cons,List.map_nil] at hr ⊢
    exact (cJ (aIk hu hd _) fun _=>b8 _:iN c.P _) w r w1 (by simpa [Sem.run_bind] using hr) |>.imp id fun h w'=>by simpa [Sem.run_bind] using h w'
   split at hc
   ·rename_i p hu hp
    exact fin fun a w hw ho=>fl _ hu (.inl rfl) a
   ·rename_i e p hu hp
    exact fin fun a w hw ho=>fl _ hu (.inr ⟨e,rfl⟩) a
   ·cases hc
  ·cases hc
 case h_19 xs ts|h_20 xs ts =>
  unfold tY at hc
  split at hc
  ·split at hc
   ·injection hc with hc; subst hc; cases hq
   ·cases hc
  ·cases hc
 case h_21 f xs ts =>
  unfold pC at hc
  split at hc
  ·split at hc
   ·injection hc with hc
    simp only [if_true] at hc
    subst hc; cases hq
   ·cases hc
  ·cases hc
 case h_22=>cases hc
end
end Go.Pe
set_option linter.all false
namespace Go.Pe
open Go Go.RowKit
def oW:List Nat->List Ob->List Ob
 | [],o=>o
 | r :: rs,o=>oW rs (o.set r .dead)
def pA (o0:List Ob):List Nat->List Ob->List Ob
 | [],o=>o
 | r :: rs,o=>pA o0 rs (match o0[r]? with
  | some ob=>o.set r ob
  | none=>o)
def yF (R:List Nat) (C:List OC):List OC:=C.mapIdx fun j oc=>if j∈R then { oc with fp:=[] } else oc
def qU (C:List OC) (R:List Nat) (C':List OC):List OC:=C'.mapIdx fun j oc=>if j∈R then (C[j]?).getD oc else oc
def sK (R:List Nat):SV->Bool
 | .own r=>R.contains r
 | .ptr r _ _=>R.contains r
 | .el r _ _ _ _=>R.contains r
 | _=>false
def eqO:Option Nat->Nat->Bool
 | none,_=>false
 | some d,t=>d == t
theorem aHY (dst:Option Nat) (t:Nat):eqO dst t=false↔dst≠some t:=by
 cases dst with
 | none=>simp [eqO]
 | some d=>simp [eqO]
def aLZ (t:Nat):List Nat->Bool
 | []=>false
 | k :: d=>if k=t then true else aLZ t d
def nU (R:List Nat) (dst:Option Nat) (e0:gI):List Nat->gI->gI
 | _,[]=>[]
 | d,(t,_) :: r=>if sK R (look e0 t) && !eqO dst t then (if aLZ t d=true then nU R dst e0 (t :: d) r else (t,look e0 t) :: nU R dst e0 (t :: d) r) else nU R dst e0 (t :: d) r
theorem vR:∀ (R:List Nat) (o:List Ob) (j:Nat),(oW R o)[j]?=if j∈R then (o[j]?).map (fun _=>Ob.dead) else o[j]?
 | [],o,j=>by simp [oW]
 | r :: rs,o,j=>by
  rw [oW,vR rs]
  by_cases e:r=j
  ·subst e
   have hs:(o.set r Ob.dead)[r]?=(o[r]?).map fun _=>Ob.dead:=by
    rw [List.getElem?_set]
    by_cases h:r < o.length
    ·simp [h]
    ·simp [h]
   by_cases h:r∈rs
   ·simp only [h,if_true,hs,List.mem_cons,true_or,Option.map_map]; rfl
   ·simp only [h,if_false,hs,List.mem_cons,true_or,if_true]
  ·have hs:(o.set r Ob.dead)[j]?=o[j]?:=by rw [List.getElem?_set,if_neg e]
   have:(j∈r :: rs)↔j∈rs:=⟨fun h=>(List.mem_cons.1 h).resolve_left fun h=>e h.symm,fun h=>List.mem_cons_of_mem _ h⟩
   simp only [hs,this]
theorem vH (o0:List Ob):∀ (R:List Nat) (o:List Ob) (j:Nat),(∀ r∈R,r < o.length/\r < o0.length)->(pA o0 R o)[j]?=if j∈R then o0[j]? else o[j]?
 | [],o,j,_=>by simp [pA]
 | r :: rs,o,j,hR=>by
  obtain ⟨h1,h2⟩:=hR r (by simp)
  obtain ⟨ob,hob⟩:∃ ob,o0[r]?=some ob:=⟨o0[r],List.getElem?_eq_getElem h2⟩
  rw [pA]
  simp only [hob]
  rw [vH o0 rs _ j (fun q hq=>by have:=hR q (by simp [hq]); simpa using this)]
  by_cases e:r=j
  ·subst e
   by_cases h:r∈rs
   ·simp only [h,if_true,List.mem_cons,true_or]
   ·simp only [h,if_false,List.mem_cons,true_or,if_true,List.getElem?_set,h1,hob]
  ·have hs:(o.set r ob)[j]?=o[j]?:=by rw [List.getElem?_set,if_neg e]
   have:(j∈r :: rs)↔j∈rs:=⟨fun h=>(List.mem_cons.1 h).resolve_left fun h=>e h.symm,fun h=>List.mem_cons_of_mem _ h⟩
   simp only [hs,this]
theorem aBp (o0:List Ob):∀ (R:List Nat) (o:List Ob),(pA o0 R o).length=o.length
 | [],o=>rfl
 | r :: rs,o=>by
  rw [pA,aBp o0 rs]
  split<;>simp
theorem aA4:∀ (R:List Nat) (o:List Ob),(oW R o).length=o.length
 | [],o=>rfl
 | r :: rs,o=>by rw [oW,aA4 rs]; simp
theorem lI (R:List Nat) (C:List OC) (j:Nat):(yF R C)[j]?=(C[j]?).map fun oc=>if j∈R then { oc with fp:=[] } else oc:=by
 rw [yF,List.getElem?_mapIdx]
theorem oP (C:List OC) (R:List Nat) (C':List OC) (j:Nat):(qU C R C')[j]?=(C'[j]?).map fun oc=>if j∈R then (C[j]?).getD oc else oc:=by
 rw [qU,List.getElem?_mapIdx]
theorem nB {R:List Nat} {C:List OC} {b:Nat}:b∈dN (yF R C)↔∃ r oc,r ∉ R/\C[r]?=some oc/\b∈oc.fp:=by
 rw [bP]
 constructor
 ·rintro ⟨r,oc,h1,h2⟩
  rw [lI,Option.map_eq_some_iff] at h1
  obtain ⟨od,h3,rfl⟩:=h1
  by_cases h:r∈R
  ·rw [if_pos h] at h2; cases h2
  ·rw [if_neg h] at h2; exact ⟨r,od,h,h3,h2⟩
 ·rintro ⟨r,oc,h,h1,h2⟩
  exact ⟨r,oc,by rw [lI,h1,Option.map_some,if_neg h],h2⟩
theorem qB (R:List Nat) (dst:Option Nat) (e0 e1:gI) (t:Nat):∀ (d:List Nat) (e:gI),look (nU R dst e0 d e ++ e1) t=look e1 t\/(look (nU R dst e0 d e ++ e1) t=look e0 t/\sK R (look e0 t)=true/\dst≠some t)
 | _,[]=>.inl rfl
 | d,(k,s) :: e=>by
  simp only [nU]
  split
  ·rename_i h
   rw [Bool.and_eq_true,Bool.not_eq_true',aHY] at h
   split
   ·exact qB R dst e0 e1 t (k :: d) e
   simp only [List.cons_append,look]
   by_cases hk:k=t
   ·subst hk; simp only [if_true]; exact .inr ⟨trivial,h.1,h.2⟩
   ·simp only [hk,if_false]; exact qB R dst e0 e1 t (k :: d) e
  ·exact qB R dst e0 e1 t (k :: d) e
def aDN (c:Ctx) (C:List OC) (R:List Nat) (w:World):Ctx :=
 { c with w0:=w,M0:=fun b=>c.M0 b\/∃ r∈R,∃ oc,C[r]?=some oc/\b∈oc.fp,g0:=dN (yF R C) }
section
variable {c : Ctx} {s s' : St} {C C' : List OC} {a a' : Act} {w w' : World} {R : List Nat}
theorem aCk:Ms (aDN c C R w) (yF R C)=Ms c C:=by
 funext b
 refine propext ⟨?_,?_⟩
 ·rintro ((h|⟨r,_,oc,h1,h2⟩)|h)
  ·exact .inl h
  ·exact .inr (bP.2 ⟨r,oc,h1,h2⟩)
  ·obtain ⟨r,oc,_,h1,h2⟩:=nB.1 h
   exact .inr (bP.2 ⟨r,oc,h1,h2⟩)
 ·rintro (h|h)
  ·exact .inl (.inl h)
  ·obtain ⟨r,oc,h1,h2⟩:=bP.1 h
   by_cases hr:r∈R
   ·exact .inl (.inr ⟨r,hr,oc,h1,h2⟩)
   ·exact .inr (nB.2 ⟨r,oc,hr,h1,h2⟩)
theorem e7.move {M:Nat->Prop} {sv:SV} {v:Value} (h:∀ r oc,iR r sv=true->C[r]?=some oc->C'[r]?=some oc) (hv:e7 w M C sv v):e7 w M C' sv v:=by
 cases sv with
 | own r=>obtain ⟨oc,h1,h2⟩:=hv; exact ⟨oc,h r oc (by simp [iR]) h1,h2⟩
 | ptr r off p=>obtain ⟨oc,h1,h2⟩:=hv; exact ⟨oc,h r oc (by simp [iR]) h1,h2⟩
 | el r es i off p=>obtain ⟨oc,g,n,cp,h1,h2⟩:=hv; exact ⟨oc,g,n,cp,h r oc (by simp [iR]) h1,h2⟩
 | vw r=>obtain ⟨oc,cs,h1,h2⟩:=hv; exact ⟨oc,cs,h r oc (by simp [iR]) h1,h2⟩
 | win r es lo=>obtain ⟨oc,g,n,cp,h1,h2⟩:=hv; exact ⟨oc,g,n,cp,h r oc (by simp [iR]) h1,h2⟩
 | _=>exact hv
theorem cB.move {M:Nat->Prop} {sv:SV} {v:Value} (h:∀ r oc,eI r sv=true->C[r]?=some oc->C'[r]?=some oc) (hv:cB w M C sv v):cB w M C' sv v:=by
 cases sv with
 | tup xs =>
  obtain ⟨vs,k1,k2,k3⟩:=hv
  refine ⟨vs,k1,k2,fun i sx u hi hu=>e7.move (fun r oc hr hc=>h r oc ?_ hc) (k3 i sx u hi hu)⟩
  simp only [eI,List.any_eq_true]
  exact ⟨sx,List.mem_of_getElem? hi,hr⟩
 | own r=>exact e7.move (w:=w) (M:=M) (sv:=.own r) (v:=v) (fun r' oc hr hc=>h r' oc (by simpa [eI] using hr) hc) hv
 | ptr r off p=>exact e7.move (w:=w) (M:=M) (sv:=.ptr r off p) (v:=v) (fun r' oc hr hc=>h r' oc (by simpa [eI] using hr) hc) hv
 | el r es i off p=>exact e7.move (w:=w) (M:=M) (sv:=.el r es i off p) (v:=v) (fun r' oc hr hc=>h r' oc (by simpa [eI] using hr) hc) hv
 | win r es lo=>exact e7.move (w:=w) (M:=M) (sv:=.win r es lo) (v:=v) (fun r' oc hr hc=>h r' oc (by simpa [eI] using hr) hc) hv
 | vw r=>exact e7.move (w:=w) (M:=M) (sv:=.vw r) (v:=v) (fun r' oc hr hc=>h r' oc (by simpa [eI] using hr) hc) hv
 | _=>exact hv
theorem aJa (hr:Rel c s C a w) (R:List Nat):Rel (aDN c C R w) ⟨eF R s.e,oW R s.o⟩ (yF R C) a w:=by
 have hn:=cD.1 hr.wd.nodup
 refine ⟨hr.tmps,hr.defers,fun t=>?_,?_,hr.fix⟩
 ·rw [aCk,kO]
  split
  ·trivial
  ·rename_i h
   refine cB.move (fun r oc hra hc=>?_) (hr.env t)
   rw [lI,hc,Option.map_some]
   have:r ∉ R:=fun hm=>h (List.any_eq_true.2 ⟨r,hm,hra⟩)
   rw [if_neg this]
 ·refine { len:=by rw [aA4,yF,List.length_mapIdx]; exact hr.wd.len,obs:=?_,tags:=?_,nodup:=?_,lt:=?_,apart:=?_,mine:=fun b hb=>.inr hb,os:=rfl,tape:=rfl,output:=rfl,size:=Nat.le_refl _,kept:=fun b _ _=>rfl,m0:=?_,glob:=by rw [aCk]; exact hr.wd.glob }
  ·intro r ob oc h1 h2
   rw [aCk]
   rw [vR] at h1
   rw [lI,Option.map_eq_some_iff] at h2
   obtain ⟨od,h3,rfl⟩:=h2
   by_cases h:r∈R
   ·rw [if_pos h,Option.map_eq_some_iff] at h1
    obtain ⟨_,_,rfl⟩:=h1
    rw [if_pos h]
    rfl
   ·rw [if_neg h] at h1 ⊢
    exact hr.wd.obs r ob od h1 h3
  ·intro q r v h1
   rw [vR] at h1
   have h1':s.o[q]?=some (.tag r v):=by
    split at h1
    ·rw [Option.map_eq_some_iff] at h1; obtain ⟨_,_,h⟩:=h1; cases h
    ·exact h1
   obtain ⟨oc,h2,h3⟩:=hr.wd.tags q r v h1'
   refine ⟨_,by rw [lI,h2,Option.map_some],?_⟩
   split<;>exact h3
  ·refine cD.2 ⟨fun j od hj=>?_,fun j i od oe hne hj hi b hb hb'=>?_⟩
   ·rw [lI,Option.map_eq_some_iff] at hj
    obtain ⟨oc,h1,rfl⟩:=hj
    split
    ·exact List.nodup_nil
    ·exact hn.1 j oc h1
   ·rw [lI,Option.map_eq_some_iff] at hj hi
    obtain ⟨o1,h1,rfl⟩:=hj
    obtain ⟨o2,h2,rfl⟩:=hi
    split at hb
    ·cases hb
    ·split at hb'
     ·cases hb'
     ·exact hn.2 j i o1 o2 hne h1 h2 b hb hb'
  ·intro b hb
   obtain ⟨r,oc,_,h1,h2⟩:=nB.1 hb
   exact hr.wd.lt b (bP.2 ⟨r,oc,h1,h2⟩)
  ·intro b hb
   obtain ⟨r,oc,hm,h1,h2⟩:=nB.1 hb
   rintro (h|⟨q,hq,od,h3,h4⟩)
   ·exact hr.wd.apart b (bP.2 ⟨r,oc,h1,h2⟩) h
   ·exact hn.2 r q oc od (fun e=>hm (by rw [e]; exact hq)) h1 h3 b h2 h4
  ·rintro b (h|⟨q,hq,od,h3,h4⟩)
   ·have:=hr.wd.m0 b h
    have:=hr.wd.size
    show b < w.heap.size
    omega
   ·exact hr.wd.lt b (bP.2 ⟨q,od,h3,h4⟩)
theorem e8.frame {M M':Nat->Prop} {ob:Ob} {oc:OC} (hs:w.heap.size<=w'.heap.size) (hM:∀ b,b < w.heap.size->M' b->M b) (hk:∀ b,b < w.heap.size->(b∈oc.fp\/¬ M b)->w'.heap[b]?=w.heap[b]?) (h:e8 w M ob oc):e8 w' M' ob oc:=by
 cases ob with
 | dead=>exact h
 | tag r v=>exact h
 | val x =>
  obtain ⟨cs,h1,h2⟩:=h
  exact ⟨cs,cU hs hM x cs oc.fp hk h1,h2⟩
 | box x =>
  obtain ⟨cs,fps,h1,h2,h3⟩:=h
  exact ⟨cs,fps,h1.frame (hk _ h1.lt (.inl (by rw [h3]; simp))),cU hs hM x cs fps (fun b hb hx=>hk b hb (hx.imp (fun hx=>by rw [h3]; simp [hx]) id)) h2,h3⟩
 | mp kvs =>
  obtain ⟨es,cl,h1,h2,h3,h4⟩:=h
  exact ⟨es,cl,(hk _ (aCi h1) (.inl (by rw [h4]; simp))).trans h1,h2,h3,h4⟩
theorem aJs (hr:Rel c s C a w) (hR:∀ r∈R,r < s.o.length) (hT:∀ q∈R,∀ r v,s.o[q]?=some (.tag r v)->r∈R) {dst:Option Nat} (h:Rel (aDN c C R w) s' C' a' w') (hd:∀ r∈R,s'.o[r]?=some .dead) (hn:∀ r∈R,n7 r s'.o=true) (ht:∀ t,dst≠some t->a'.tmps.getD t Go.undef=a.tmps.getD t Go.undef) :
  Rel c ⟨nU R dst s.e [] s.e ++ eF R s'.e,pA s.o R s'.o⟩ (qU C R C') a' w'/\∀ b,okB w c C R b->w'.heap[b]?=w.heap[b]?/\okB w' c (qU C R C') R b:=by
 have hnC:=cD.1 hr.wd.nodup
 have hnC':=cD.1 h.wd.nodup
 have hlen:=hr.wd.len
 have hlen':=h.wd.len
 -- the hidden objects' places
 have hat:∀ r∈R,∃ oc od,C[r]?=some oc/\C'[r]?=some od/\(qU C R C')[r]?=some oc:=by
  intro r hm
  have h1:=hR r hm
  have h2:=bC (hd r hm)
  obtain ⟨oc,hoc⟩:∃ oc,C[r]?=some oc:=⟨C[r]'(by omega),List.getElem?_eq_getElem _⟩
  obtain ⟨od,hod⟩:∃ od,C'[r]?=some od:=⟨C'[r]'(by omega),List.getElem?_eq_getElem _⟩
  exact ⟨oc,od,hoc,hod,by rw [oP,hod,Option.map_some,if_pos hm,hoc]; rfl⟩
 have hdead:∀ r∈R,∀ od,C'[r]?=some od->od.fp=[]:=fun r hm od h1=>h.wd.obs r .dead od (hd r hm) h1
 have hcase:∀ (j:Nat) (od:OC),(qU C R C')[j]?=some od->(j∈R/\C[j]?=some od)\/(j ∉ R/\C'[j]?=some od):=by
  intro j od hj
  by_cases hm:j∈R
  ·obtain ⟨oc,_,h1,_,h3⟩:=hat j hm
   rw [h3] at hj
   injection hj with hj
   subst hj
   exact .inl ⟨hm,h1⟩
  ·rw [oP,Option.map_eq_some_iff] at hj
   obtain ⟨o1,h1,h2⟩:=hj
   rw [if_neg hm] at h2
   subst h2
   exact .inr ⟨hm,h1⟩
 have hmem:∀ b,b∈dN (qU C R C')↔(∃ r∈R,∃ oc,C[r]?=some oc/\b∈oc.fp)\/b∈dN C':=by
  intro b
  constructor
  ·intro hb
   obtain ⟨j,od,hj,hb⟩:=bP.1 hb
   rcases hcase j od hj with ⟨hm,h1⟩|⟨_,h1⟩
   ·exact .inl ⟨j,hm,od,h1,hb⟩
   ·exact .inr (bP.2 ⟨j,od,h1,hb⟩)
  ·rintro (⟨r,hm,oc,h1,hb⟩|hb)
   ·obtain ⟨oc',_,h2,_,h3⟩:=hat r hm
    rw [h1] at h2
    injection h2 with h2
    subst h2
    exact bP.2 ⟨r,oc,h3,hb⟩
   ·obtain ⟨j,od,hj,hb⟩:=bP.1 hb
    by_cases hm:j∈R
    ·rw [hdead j hm od hj] at hb; cases hb
    ·exact bP.2 ⟨j,od,by rw [oP,hj,Option.map_some,if_neg hm],hb⟩
 have hMs:Ms c (qU C R C')=Ms (aDN c C R w) C':=by
  funext b
  refine propext ⟨?_,?_⟩
  ·rintro (h1|h1)
   ·exact .inl (.inl h1)
   ·rcases (hmem b).1 h1 with h1|h1
    ·exact .inl (.inr h1)
    ·exact .inr h1
  ·rintro ((h1|h1)|h1)
   ·exact .inl h1
   ·exact .inr ((hmem b).2 (.inl h1))
   ·exact .inr ((hmem b).2 (.inr h1))
 have hsz:w.heap.size<=w'.heap.size:=h.wd.size
 have hold:∀ b,b∈dN C'->w.heap.size<=b\/∃ r oc,r ∉ R/\C[r]?=some oc/\b∈oc.fp:=fun b hb=>(h.wd.mine b hb).imp id nB.1
 have hkeep:∀ b,okB w c C R b->w'.heap[b]?=w.heap[b]?:=by
  rintro b ⟨hb,hx⟩
  refine h.wd.kept b hb fun hg=>?_
  obtain ⟨q,od,hq,h1,h2⟩:=nB.1 hg
  rcases hx with hx|⟨r,hm,oc,h3,h4⟩
  ·exact hx (.inr (bP.2 ⟨q,od,h1,h2⟩))
  ·exact hnC.2 q r od oc (fun e=>hq (by rw [e]; exact hm)) h1 h3 b h2 h4
 have hMle:∀ b,b < w.heap.size->Ms c (qU C R C') b->Ms c C b:=by
  rintro b hb (h1|h1)
  ·exact .inl h1
  ·rcases (hmem b).1 h1 with ⟨r,_,oc,h2,h3⟩|h1
   ·exact .inr (bP.2 ⟨r,oc,h2,h3⟩)
   ·rcases hold b h1 with h2|⟨r,oc,_,h2,h3⟩
    ·omega
    ·exact .inr (bP.2 ⟨r,oc,h2,h3⟩)
 refine ⟨⟨h.tmps,h.defers,fun t=>?_,?_,h.fix⟩,fun b hb=>⟨hkeep b hb,by have:=hb.1; omega,?_⟩⟩
 ·rcases qB R dst s.e (eF R s'.e) t [] s.e with e|⟨e,hb,hdt⟩
  ·simp only [e,kO]
   split
   ·trivial
   ·rename_i hk
    rw [hMs]
    refine cB.move (fun r oc hra hc=>?_) (h.env t)
    have:r ∉ R:=fun hm=>hk (List.any_eq_true.2 ⟨r,hm,hra⟩)
    rw [oP,hc,Option.map_some,if_neg this]
  ·simp only [e,ht t hdt]
   have hv:=hr.env t
   generalize look s.e t=sv at hb hv ⊢
   have back:∀ r oc,r∈R->C[r]?=some oc->(qU C R C')[r]?=some oc:=fun r oc hm h1=>by
    obtain ⟨oc',_,h2,_,h3⟩:=hat r hm
    rw [h1] at h2
    injection h2 with h2
    subst h2
    exact h3
   cases sv with
   | own r =>
    simp only [sK,List.contains_iff_mem] at hb
    obtain ⟨oc,h1,h2⟩:=hv
    exact ⟨oc,back r oc hb h1,h2⟩
   | ptr r off p =>
    simp only [sK,List.contains_iff_mem] at hb
    obtain ⟨oc,h1,h2⟩:=hv
    exact ⟨oc,back r oc hb h1,h2⟩
   | el r es i off p =>
    simp only [sK,List.contains_iff_mem] at hb
    obtain ⟨oc,g,n,cp,h1,h2⟩:=hv
    exact ⟨oc,g,n,cp,back r oc hb h1,h2⟩
   | _=>cases hb
 ·refine { len:=by rw [aBp,qU,List.length_mapIdx]; exact hlen',obs:=?_,tags:=?_,nodup:=?_,lt:=?_,apart:=?_,mine:=?_,os:=h.wd.os.trans hr.wd.os,tape:=h.wd.tape.trans hr.wd.tape,output:=h.wd.output.trans hr.wd.output,size:=Nat.le_trans hr.wd.size hsz,kept:=?_,m0:=hr.wd.m0,glob:=by rw [hMs]; exact h.wd.glob }
  ·intro r ob oc h1 h2
   rw [vH s.o R s'.o r (fun q hq=>⟨bC (hd q hq),hR q hq⟩)] at h1
   rcases hcase r oc h2 with ⟨hm,h3⟩|⟨hm,h3⟩
   ·rw [if_pos hm] at h1
    refine e8.frame hsz hMle (fun b hb hx=>hkeep b ⟨hb,?_⟩) (hr.wd.obs r ob oc h1 h3)
    exact hx.symm.imp id fun hx=>⟨r,hm,oc,h3,hx⟩
   ·rw [if_neg hm] at h1
    rw [hMs]
    exact h.wd.obs r ob oc h1 h3
  ·intro q r v h1
   rw [vH s.o R s'.o q (fun q hq=>⟨bC (hd q hq),hR q hq⟩)] at h1
   by_cases hm:q∈R
   ·rw [if_pos hm] at h1
    obtain ⟨oc,h2,h3⟩:=hr.wd.tags q r v h1
    obtain ⟨oc',_,h4,_,h5⟩:=hat r (hT q hm r v h1)
    rw [h2] at h4
    injection h4 with h4
    subst h4
    exact ⟨oc,h5,h3⟩
   ·rw [if_neg hm] at h1
    obtain ⟨oc,h2,h3⟩:=h.wd.tags q r v h1
    have hrm:r ∉ R:=fun hrm=>wM (hn r hrm) h1 rfl
    exact ⟨oc,by rw [oP,h2,Option.map_some,if_neg hrm],h3⟩
  ·refine cD.2 ⟨fun j od hj=>?_,fun j i od oe hne hj hi b hb hb'=>?_⟩
   ·rcases hcase j od hj with ⟨_,h1⟩|⟨_,h1⟩
    ·exact hnC.1 j od h1
    ·exact hnC'.1 j od h1
   ·rcases hcase j od hj with ⟨m1,h1⟩|⟨m1,h1⟩<;>rcases hcase i oe hi with ⟨m2,h2⟩|⟨m2,h2⟩
    ·exact hnC.2 j i od oe hne h1 h2 b hb hb'
    ·exact h.wd.apart b (bP.2 ⟨i,oe,h2,hb'⟩) (.inr ⟨j,m1,od,h1,hb⟩)
    ·exact h.wd.apart b (bP.2 ⟨j,od,h1,hb⟩) (.inr ⟨i,m2,oe,h2,hb'⟩)
    ·exact hnC'.2 j i od oe hne h1 h2 b hb hb'
  ·intro b hb
   rcases (hmem b).1 hb with ⟨r,_,oc,h1,h2⟩|h1
   ·have:=hr.wd.lt b (bP.2 ⟨r,oc,h1,h2⟩); omega
   ·exact h.wd.lt b h1
  ·intro b hb
   rcases (hmem b).1 hb with ⟨r,_,oc,h1,h2⟩|h1
   ·exact hr.wd.apart b (bP.2 ⟨r,oc,h1,h2⟩)
   ·exact fun hm=>h.wd.apart b h1 (.inl hm)
  ·intro b hb
   rcases (hmem b).1 hb with ⟨r,_,oc,h1,h2⟩|h1
   ·exact hr.wd.mine b (bP.2 ⟨r,oc,h1,h2⟩)
   ·rcases hold b h1 with h2|⟨r,oc,_,h2,h3⟩
    ·have:=hr.wd.size; exact .inl (by omega)
    ·exact hr.wd.mine b (bP.2 ⟨r,oc,h2,h3⟩)
  ·intro b hb hg
   have hsw:=hr.wd.size
   rw [h.wd.kept b (show b < w.heap.size by omega) fun hm=>?_]
   ·exact hr.wd.kept b hb hg
   ·obtain ⟨r,oc,_,h1,h2⟩:=nB.1 hm
    rcases hr.wd.mine b (bP.2 ⟨r,oc,h1,h2⟩) with h3|h3
    ·omega
    ·exact hg h3
 ·rcases hb.2 with hx|⟨r,hm,oc,h1,h2⟩
  ·exact .inl fun hm=>hx (hMle b hb.1 hm)
  ·obtain ⟨oc',_,h3,_,h5⟩:=hat r hm
   rw [h1] at h3; injection h3 with h3; subst h3
   exact .inr ⟨r,hm,oc,h5,h2⟩
end
end Go.Pe
set_option linter.all false
namespace Go.Pe
open Go Go.RowKit
inductive MP where
 | done
 | q (i:Nat) (m:MOp) (k:MP)
 | e (i:Nat) (m:MOp) (k:MP)
 | br (x y:MP)
inductive PS where
 | done
 | q (i:Nat) (k:PS)
 | e (i:Nat) (k:PS)
 | br (x y:PS)
def PS.tops:PS->List Nat
 | .e i _=>[i]
 | .br x y=>x.tops ++ y.tops
 | _=>[]
def PS.depth:PS->Nat
 | .done=>0
 | .q _ k=>k.depth + 1
 | .e _ k=>k.depth + 1
 | .br x y=>max x.depth y.depth
def aIh:Nat->List Nat->Option (PS×List Nat)
 | 0,_=>none
 | _ + 1,0 :: r=>some (.done,r)
 | n + 1,1 :: i :: r=>(aIh n r).map fun p=>(.q i p.1,p.2)
 | n + 1,2 :: i :: r=>(aIh n r).map fun p=>(.e i p.1,p.2)
 | n + 1,3 :: r=>(aIh n r).bind fun p=>(aIh n p.2).map fun u=>(.br p.1 u.1,u.2)
 | _,_=>none
def qS (s:St) (m:MOp):List Nat:=y8 (look s.e) m.op
def xF:List Nat->List Nat->List Nat
 | [],R=>R
 | x :: xs,R=>if R.contains x then xF xs R else x :: xF xs R
theorem l5 {r:Nat}:∀ {xs R:List Nat},(r∈xs\/r∈R)->r∈xF xs R
 | [],R,h=>h.resolve_left (by simp)
 | x :: xs,R,h=>by
  unfold xF
  split
  ·rename_i hc
   rcases h with h|h
   ·rcases List.mem_cons.1 h with rfl|h
    ·exact l5 (.inr (List.contains_iff_mem.1 hc))
    ·exact l5 (.inl h)
   ·exact l5 (.inr h)
  ·rcases h with h|h
   ·rcases List.mem_cons.1 h with rfl|h
    ·exact List.mem_cons_self ..
    ·exact List.mem_cons_of_mem _ (l5 (.inl h))
   ·exact List.mem_cons_of_mem _ (l5 (.inr h))
def pU (R:List Nat):Nat->List Ob->List Nat
 | _,[]=>[]
 | n,.tag r _ :: o=>if R.contains r then n :: pU R (n + 1) o else pU R (n + 1) o
 | n,_ :: o=>pU R (n + 1) o
theorem zC:∀ (n:Nat) (o:List Ob),pU [] n o=[]
 | _,[]=>rfl
 | n,ob :: o=>by
  cases ob<;>simp [pU,zC (n + 1) o]
def tF (R:List Nat) (o:List Ob):List Nat:=xF (pU R 0 o) R
theorem aIF {r:Nat} {R:List Nat} {o:List Ob} (h:r∈R):r∈tF R o:=l5 (.inr h)
def wG (R:List Nat) (o:List Ob) (o':List Ob):Bool:=R.all fun r=>decide (r < o.length) && (match o[r]? with
 | some (.tag q _)=>R.contains q
 | _=>true) && (match o'[r]? with
 | some .dead=>true
 | _=>false) && n7 r o'
def d4 (P:PG) (un:List Nat):MP->List Nat->St->(St->Prop)->Prop
 | .done,_,s,K=>K s
 | .q _ m k,R,s,K=>dS P [m] s fun s'=>d4 P un k (xF (qS s m) R) s' K
 | .e i m k,R,s,K=>if un.contains i then dS P [m] s fun s'=>d4 P un k [] s' K
   else dS P [m] ⟨eF (tF R s.o) s.e,oW (tF R s.o) s.o⟩ fun s'=>wG (tF R s.o) s.o s'.o=true/\d4 P un k (tF R s.o) ⟨nU (tF R s.o) m.dst s.e [] s.e ++ eF (tF R s.o) s'.e,pA s.o (tF R s.o) s'.o⟩ K
 | .br x y,R,s,K=>d4 P un x R s K/\d4 P un y R s K
def aIa (md:Region.Mode) (ops:Array Oper) (un:List Nat) (listed:Array Bool) (i:Nat) (mem:Bool):Bool :=
 Region.free md ops listed i && (!mem || (List.range ops.size).all fun j=>j == i || listed.getD j true || !un.contains j || match ops[j]? with
  | some oj=>oj.after.any fun e=>Region.binds md e && e.on == i
  | none=>true)
def chk (P:Program) (n:Nat×Nat) (md:Region.Mode) (ops:Array Oper) (un:List Nat) (pm top:Bool) (listed:Array Bool):PS->Bool
 | .done=>top && (Region.ready md ops listed).isEmpty
 | .q i k=>top && pm && (Region.ready md ops listed).contains i && aIa md ops un listed i (match (ops[i]?).bind (nE P n true ops) with
   | some m=>xA m.op
   | none=>true) && chk P n md ops un pm true (listed.setIfInBounds i true) k
 | .e i k=>(!top || Region.ready md ops listed == [i]) && (pm || un.contains i) && chk P n md ops un (pm && !un.contains i) true (listed.setIfInBounds i true) k
 | .br x y=>(!top || Region.ready md ops listed == x.tops ++ y.tops) && chk P n md ops un pm false listed x && chk P n md ops un pm false listed y
def mkP (P:Program) (n:Nat×Nat) (ops:Array Oper):PS->Option MP
 | .done=>some .done
 | .q i k=>match (ops[i]?).bind (nE P n true ops),mkP P n ops k with
  | some m,some k'=>if pJ m.op then some (.q i m k') else none
  | _,_=>none
 | .e i k=>match (ops[i]?).bind (nE P n false ops),mkP P n ops k with
  | some m,some k'=>some (.e i m k')
  | _,_=>none
 | .br x y=>match mkP P n ops x,mkP P n ops y with
  | some x',some y'=>some (.br x' y')
  | _,_=>none
section
variable {P : Program} {md : Region.Mode} {ops : Array Oper} {x : Nat -> Bool} {Q : Exit -> Act -> World -> Prop}
def wpK (P:Program) (md:Region.Mode) (ops:Array Oper) (x:Nat->Bool) (Q:Exit->Act->World->Prop) (A:Nat->Prop):Nat->Array Bool->Act->World->Prop
 | 0,listed,a,w=>Region.ready md ops listed=[]/\Q .normal a w
 | fuel + 1,listed,a,w =>
  (Region.ready md ops listed=[]->Q .normal a w) /\
  ∀ i∈Region.ready md ops listed,wpOp P ops Q i (fun a' w'=>(x i=true->∀ b,A b->w'.heap[b]?=w.heap[b]?)/\wpK P md ops x Q A fuel (listed.setIfInBounds i true) a' w') a w
theorem tE {A:Nat->Prop}:∀ (fuel:Nat) (listed:Array Bool) (a:Act) (w:World),wpK P md ops x Q A fuel listed a w->wpAny P md ops Q fuel listed a w
 | 0,_,_,_,h=>h
 | fuel + 1,_,_,_,h=>⟨h.1,fun i hi=>wpOp_mono (fun a' w' h'=>tE fuel _ a' w' h'.2) (h.2 i hi)⟩
theorem aDC {A B:Nat->Prop} (hAB:∀ b,B b->A b):∀ (fuel:Nat) (listed:Array Bool) (a:Act) (w:World),wpK P md ops x Q A fuel listed a w->wpK P md ops x Q B fuel listed a w
 | 0,_,_,_,h=>h
 | fuel + 1,_,_,_,h=>⟨h.1,fun i hi=>wpOp_mono (fun a' w' h'=>⟨fun hx b hb=>h'.1 hx b (hAB b hb),aDC hAB fuel _ a' w' h'.2⟩) (h.2 i hi)⟩
theorem aH0 {A:Nat->Prop} {listed:Array Bool} {a:Act} {w:World} (hr:Region.ready md ops listed=[]) (h:Q .normal a w):∀ fuel,wpK P md ops x Q A fuel listed a w
 | 0=>⟨hr,h⟩
 | _ + 1=>⟨fun _=>h,by rw [hr]; simp⟩
theorem aG8 {A:Nat->Prop} {mem:Bool} {w0:World} {i:Nat} {oi:Oper} {v:Value} (hi:ops[i]?=some oi) (hsel:∀ (j:Nat) (o:Oper) cs b,ops[j]?=some o->o.op≠.select cs b)
  (hQ:∀ c a w,Q (.panic c) (a.put oi.dst v) w->Q (.panic c) a w) :
  ∀ (fuel:Nat) (listed:Array Bool) (a:Act) (w:World),
   (∀ j oj,ops[j]?=some oj->j≠i->listed.getD j true=false->(∀ e∈oj.after,Region.binds md e=true->e.on≠i)->oi.apart ops oj=true/\(mem=true->x j=true)) ->
   i∈Region.ready md ops listed->YieldsIf P ops (fun w'=>mem=true->∀ b,A b->w'.heap[b]?=w0.heap[b]?) oi v a->(mem=true->∀ b,A b->w.heap[b]?=w0.heap[b]?) ->
   wpK P md ops x Q A fuel (listed.setIfInBounds i true) (a.put oi.dst v) w->wpK P md ops x Q A (fuel + 1) listed a w:=by
 intro fuel
 induction fuel with
 | zero =>
  intro listed a w _ hr hy hS H
  refine ⟨fun h=>(by rw [h] at hr; cases hr),fun j hj=>?_⟩
  by_cases hji:j=i
  ·subst hji; exact hy.wpOp hi hS ⟨fun _ _ _=>rfl,H⟩
  ·have:=ready_mono hj hji
   rw [H.1] at this
   cases this
 | succ fuel ih =>
  intro listed a w hfree hr hy hS H
  refine ⟨fun h=>(by rw [h] at hr; cases hr),fun j hj=>?_⟩
  by_cases hji:j=i
  ·subst hji; exact hy.wpOp hi hS ⟨fun _ _ _=>rfl,H⟩
  ·have h1:=H.2 j (ready_mono hj hji)
   obtain ⟨hjun,oj,hoj,hall⟩:=mem_ready.1 hj
   have hnot:∀ e∈oj.after,Region.binds md e=true->e.on≠i:=fun e he hb heq=>by
    have h1:=hall e he hb
    have h0:=(mem_ready.1 hr).1
    rw [heq] at h1
    rcases Nat.lt_or_ge i listed.size with h'|h'
    ·simp [h'] at h0 h1; rw [h0] at h1; cases h1
    ·simp [Array.getElem?_eq_none h'] at h1
   obtain ⟨hap,hxj⟩:=hfree j oj hoj hji hjun hnot
   have h2:=wpOp_putIf hoj hap (fun cs b=>hsel i oi cs b hi) (fun cs b=>hsel j oj cs b hoj) hQ hy h1
   have hfree':∀ k ok,ops[k]?=some ok->k≠i->(listed.setIfInBounds j true).getD k true=false ->
     (∀ e∈ok.after,Region.binds md e=true->e.on≠i)->oi.apart ops ok=true/\(mem=true->x k=true):=fun k ok hk hki hun hno=>by
    refine hfree k ok hk hki ?_ hno
    by_cases hjk:j=k
    ·subst hjk; exact hjun
    ·rw [getD_set_ne true hjk] at hun; exact hun
   refine wpOp_mono (fun a' w' h3=>⟨h3.2.1,ih (listed.setIfInBounds j true) a' w' hfree' (ready_mono hr (Ne.symm hji)) h3.1 (fun hm b hb=>(h3.2.1 (hxj hm) b hb).trans (hS hm b hb)) ?_⟩) h2
   rw [Array.setIfInBounds_comm _ _ hji]
   exact h3.2.2
end
theorem Oper.wp_tmps {P:Program} {o:Oper} {a:Act} {w:World} {K:Act->World->Prop} {Q:Exit->Act->World->Prop} (h:o.wp P a w K Q) :
  o.wp P a w (fun a' w'=>K a' w'/\∀ t,o.dst≠some t->a'.tmps.getD t Go.undef=a.tmps.getD t Go.undef) Q:=by
 have key:∀ (a1:Act) (v:Value),a1.tmps=a.tmps->∀ t,o.dst≠some t->(a1.put o.dst v).tmps.getD t Go.undef=a.tmps.getD t Go.undef:=by
  intro a1 v h1 t ht
  rw [<- h1]
  cases hd:o.dst with
  | none=>simp [Act.put]
  | some d =>
   rw [hd] at ht
   have:d≠t:=fun e=>ht (by rw [e])
   simp [Act.put,Array.getD_eq_getD_getElem?,Array.getElem?_setIfInBounds,this]
 unfold Oper.wp at *
 generalize (execOp a.eval o).run P w=r at *
 cases r with
 | ok n w' =>
  cases n<;>simp only [Oper.upon] at h ⊢<;>first
   | exact ⟨h,key _ _ rfl⟩
   | exact Calls.mono h (fun e w'' he=>by cases e<;>first|exact ⟨he,key _ _ rfl⟩|exact he)
   | exact Rows.mono h (fun _ _ he=>⟨he,key _ _ rfl⟩)
 | halt x w'=>cases x<;>simp only [Oper.upon] at h ⊢<;>exact h
theorem aGJ {P:Program} {ops:Array Oper} {Q:Exit->Act->World->Prop} {i:Nat} {o:Oper} {K:Act->World->Prop} {a:Act} {w:World} (hi:ops[i]?=some o) (h:wpOp P ops Q i K a w) :
  wpOp P ops Q i (fun a' w'=>K a' w'/\∀ t,o.dst≠some t->a'.tmps.getD t Go.undef=a.tmps.getD t Go.undef) a w:=by
 unfold wpOp at *
 simp only [hi] at h ⊢
 split
 ·rename_i hw
  simp only [hw,if_true] at h
  exact h.imp Oper.wp_tmps id
 ·rename_i hw
  simp only [hw,Bool.false_eq_true,if_false] at h
  refine ⟨h,fun t ht=>?_⟩
  cases hd:o.dst with
  | none=>simp [Act.put]
  | some d =>
   rw [hd] at ht
   have:d≠t:=fun e=>ht (by rw [e])
   simp [Act.put,Array.getD_eq_getD_getElem?,Array.getElem?_setIfInBounds,this]
section
variable {c : Ctx} {ops : Array Oper} {s : St} {C : List OC} {a : Act} {w : World}
theorem uI {Q:Exit->Act->World->Prop} {i:Nat} {o:Oper} {m:MOp} {K:St->Prop} (hi:ops[i]?=some o) (hm:nE c.P c.nn false ops o=some m) (hr:Rel c s C a w) (hx:dS c.G [m] s K) :
  wpOp c.P ops Q i (fun a' w'=>∃ s' C',K s'/\Rel c s' C' a' w') a w:=by
 have h:=jJ (c:=c) (ops:=ops) (Q:=fun e a' w'=>e=.normal/\∃ s' C',K s'/\Rel c s' C' a' w') (K:=K) (fun s' C' a' w' h1 h2=>⟨rfl,s',C',h2,h1⟩) [o] [m] s C a w (by simp only [lB,hm]) hr hx
 unfold wpOp
 simp only [hi]
 simp only [wpList] at h
 split at h
 ·rename_i hw
  simp only [hw,if_true]
  rcases h with h|⟨_,h⟩
  ·left
   unfold Oper.wp at h ⊢
   generalize (execOp a.eval o).run c.P w=r at *
   cases r with
   | ok n w' =>
    cases n<;>simp only [Oper.upon] at h ⊢<;>first
     | exact h.2
     | exact Calls.mono h (fun e w'' he=>by
       cases e with
       | returned v=>exact he.2
       | panicked ch=>exact absurd he.1 (by simp)
       | outgrown=>obtain ⟨_,_,hh⟩:=he; exact absurd hh.1 (by simp))
     | exact Rows.mono h (fun _ _ he=>he.2)
   | halt x w'=>cases x<;>simp only [Oper.upon] at h ⊢<;>first|exact h.elim|exact absurd h.1 (by simp)
  ·obtain ⟨_,_,h⟩:=h
   exact absurd h.1 (by simp)
 ·rename_i hw
  simp only [hw,Bool.false_eq_true,if_false]
  exact h.2
end
end Go.Pe
set_option linter.all false
namespace Go.Pe
open Go Go.RowKit
theorem aA3 {P:Program} {n:Nat×Nat} {md:Region.Mode} {ops:Array Oper} {un:List Nat} {pm:Bool} {listed:Array Bool}:∀ sk:PS,chk P n md ops un pm false listed sk=true->1<=sk.depth
 | .done,h=>by simp [chk] at h
 | .q i k,h=>by simp [chk] at h
 | .e i k,h=>by simp [PS.depth]
 | .br x y,h=>by
  simp only [chk,Bool.and_eq_true] at h
  have:=aA3 x h.1.2
  simp only [PS.depth]; omega
theorem aFy {P:Program} {n:Nat×Nat} {md:Region.Mode} {ops:Array Oper} {un:List Nat} {pm:Bool} {listed:Array Bool}:∀ (x:PS),chk P n md ops un pm false listed x=true->∀ y:PS,x.tops ++ y.tops≠[]
 | .done,h,_=>by simp [chk] at h
 | .q i k,h,_=>by simp [chk] at h
 | .e i k,h,_=>by simp [PS.tops]
 | .br x y,h,z=>by
  simp only [chk,Bool.and_eq_true] at h
  have:=aFy x h.1.2 y
  simp only [PS.tops]
  intro e
  exact this (List.append_eq_nil_iff.1 e).1
theorem aEp {md:Region.Mode} {ops:Array Oper} {un:List Nat} {listed:Array Bool} {i:Nat} {mem:Bool} {oi:Oper} (hi:ops[i]?=some oi) (h:aIa md ops un listed i mem=true) (j:Nat) (oj:Oper) (hj:ops[j]?=some oj) (hne:j≠i) (hun:listed.getD j true=false)
  (hno:∀ e∈oj.after,Region.binds md e=true->e.on≠i):oi.apart ops oj=true/\(mem=true->(!un.contains j)=true):=by
 simp only [aIa,Bool.and_eq_true] at h
 refine ⟨Region.free_spec hi h.1 j oj hj hne hun hno,fun hm=>?_⟩
 have h2:=h.2
 rw [hm] at h2
 simp only [Bool.not_true,Bool.false_or,List.all_eq_true,List.mem_range] at h2
 have h3:=h2 j (Array.getElem?_eq_some_iff.1 hj).1
 simp only [hj,Bool.or_eq_true,beq_iff_eq,hne,false_or,hun,Bool.false_eq_true] at h3
 rcases h3 with h3|h3
 ·exact h3
 ·obtain ⟨e,he,hb⟩:=Array.any_eq_true'.1 h3
  simp only [Bool.and_eq_true,beq_iff_eq] at hb
  exact absurd hb.2 (hno e he hb.1)
section
variable {c : Ctx} {ops : Array Oper} {s : St} {C : List OC} {a : Act} {w : World}
theorem aNu {i:Nat} {o:Oper} {m:MOp} {K:St->Prop} (hi:ops[i]?=some o) (hm:nE c.P c.nn true ops o=some m) (hq:pJ m.op=true) (hr:Rel c s C a w) (hx:dS c.G [m] s K) :
  ∃ sv v,K ⟨kE s.e m.dst sv,s.o⟩/\cB w (Ms c C) C sv v/\∃ B:Nat->Prop,(∀ b,B b->okB w c C (qS s m) b)/\(xA m.op=false->∀ b,¬ B b)/\YieldsIf c.P ops (fun w'=>∀ b,B b->w'.heap[b]?=w.heap[b]?) o v a:=by
 obtain ⟨hd,hg,hdn⟩:=lP hm
 have hw:=rJ (E:=look s.e) hg
 have hmo:m.eff=false/\sV c.P true o.op=some m.op:=by
  unfold nE at hm
  split at hm
  ·split at hm
   ·cases hm
   ·simp only [if_true] at hm
    obtain ⟨mo,h1,rfl⟩:=Option.map_eq_some_iff.1 hm
    exact ⟨rfl,h1⟩
  ·cases hm
 have yes:m6 ops o (look s.e)=some true->(mB c.G s m.eff m.op fun sv s'=>dS c.G [] ⟨kE s'.e m.dst sv,s'.o⟩ K)->∃ sv v,K ⟨kE s.e m.dst sv,s.o⟩/\cB w (Ms c C) C sv v/\∃ B:Nat->Prop,(∀ b,B b->okB w c C (qS s m) b)/\(xA m.op=false->∀ b,¬ B b)/\YieldsIf c.P ops (fun w'=>∀ b,B b->w'.heap[b]?=w.heap[b]?) o v a:=by
  intro hwt hs
  have hwm:=jU hr.relE hwt
  rw [hmo.1] at hs
  simp only [mB] at hs
  obtain ⟨sv,hK,hy⟩:=aPl (c:=c) (C:=C) hq hmo.2 hs
  obtain ⟨v,h1,h2,B,h3,h4,h5⟩:=hy a w hr.wd (fun t _=>hr.env t)
  exact ⟨sv,v,hK,h2,B,h3,h4,.inl ⟨hwm,h5⟩⟩
 have no:m6 ops o (look s.e)=some false->K ⟨kE s.e m.dst .undef,s.o⟩->∃ sv v,K ⟨kE s.e m.dst sv,s.o⟩/\cB w (Ms c C) C sv v/\∃ B:Nat->Prop,(∀ b,B b->okB w c C (qS s m) b)/\(xA m.op=false->∀ b,¬ B b)/\YieldsIf c.P ops (fun w'=>∀ b,B b->w'.heap[b]?=w.heap[b]?) o v a:=by
  intro hwt hs
  have hwm:=jU hr.relE hwt
  exact ⟨.undef,Go.undef,hs,rfl,fun _=>False,fun b hb=>hb.elim,fun _ _ h=>h,.inr ⟨hwm,rfl⟩⟩
 unfold dS at hx
 split at hx
 ·rename_i hgn
  rw [hgn] at hw
  simp only [w3] at hw
  exact yes hw hx
 ·rename_i t want hgs
  rw [hgs] at hw
  simp only [w3] at hw
  split at hx
  ·rename_i b hb
   rw [hb] at hw
   simp only [] at hw
   by_cases e:b=want
   ·exact yes (by rw [hw,e]; simp) (hx.1 e)
   ·have e':b=!want:=by cases b<;>cases want<;>simp_all
    exact no (by rw [hw,e']; cases want<;>rfl) (hx.2 e')
  ·rename_i hb
   rw [hb] at hw
   exact no hw hx
  ·exact hx.elim
theorem aAk {un:List Nat} {K:St->Prop} {Q:Exit->Act->World->Prop} (hsel:Region.noSelect ops=true) (hQ:∀ s C a w,Rel c s C a w->K s->Q .normal a w) (hP:∀ ch a w,¬ Q (.panic ch) a w) :
  ∀ (sk:PS) (p:MP) (pm top:Bool) (listed:Array Bool) (fuel:Nat) (R:List Nat) (s:St) (C:List OC) (a:Act) (w:World) (A:Nat->Prop),
   chk c.P c.nn .any ops un pm top listed sk=true->mkP c.P c.nn ops sk=some p->sk.depth<=fuel->Rel c s C a w->(pm=true->∀ b,A b->okB w c C R b)->d4 c.G un p R s K ->
   (top=true->wpK c.P .any ops (fun i=>!un.contains i) Q A fuel listed a w) /\
   (top=false->∀ i∈sk.tops,wpOp c.P ops Q i (fun a' w'=>((!un.contains i)=true->∀ b,A b->w'.heap[b]?=w.heap[b]?)/\wpK c.P .any ops (fun i=>!un.contains i) Q A (fuel - 1) (listed.setIfInBounds i true) a' w') a w):=by
 intro sk
 induction sk with
 | done =>
  intro p pm top listed fuel R s C a w A hc hm hf hr hA hx
  simp only [chk,Bool.and_eq_true,List.isEmpty_iff] at hc
  injection hm with hm
  subst hm
  exact ⟨fun _=>aH0 hc.2 (hQ s C a w hr hx) fuel,fun h=>by rw [hc.1] at h; cases h⟩
 | q i k ih =>
  intro p pm top listed fuel R s C a w A hc hm hf hr hA hx
  simp only [chk,Bool.and_eq_true] at hc
  obtain ⟨⟨⟨⟨ht,hpm⟩,hrd⟩,hfr⟩,hc⟩:=hc
  simp only [mkP] at hm
  split at hm
  ·rename_i m k' h1 h2
   split at hm
   ·rename_i hq
    injection hm with hm
    subst hm
    rw [h1] at hfr
    simp only [] at hfr
    obtain ⟨o,hi,hmo⟩:=Option.bind_eq_some_iff.1 h1
    simp only [d4] at hx
    obtain ⟨sv,v,hK,hv,B,hB,hnm,hy⟩:=aNu hi hmo hq hr hx
    obtain ⟨hd,_,hdn⟩:=lP hmo
    obtain ⟨f,rfl⟩:∃ f,fuel=f + 1:=⟨fuel - 1,by simp only [PS.depth] at hf; omega⟩
    have hr':Rel c ⟨kE s.e m.dst sv,s.o⟩ C (a.put o.dst v) w:=by rw [hd]; exact hr.put (kP.refl w) hdn hv
    have:=(ih k' pm true (listed.setIfInBounds i true) f (xF (qS s m) R) _ C (a.put o.dst v) w (fun b=>A b\/B b) hc h2 (by simp only [PS.depth] at hf; omega) hr' (fun _ b hb=>by
     rcases hb with hb|hb
     ·obtain ⟨g1,g2⟩:=hA hpm b hb
      exact ⟨g1,g2.imp id fun ⟨r,hr,x⟩=>⟨r,l5 (.inr hr),x⟩⟩
     ·obtain ⟨g1,g2⟩:=hB b hb
      exact ⟨g1,g2.imp id fun ⟨r,hr,x⟩=>⟨r,l5 (.inl hr),x⟩⟩) hK).1 rfl
    refine ⟨fun _=>aDC (fun b hb=>.inl hb) _ _ _ _ (aG8 (mem:=xA m.op) (w0:=w) hi (Region.noSelect_spec hsel) (fun ch a w h=>absurd h (hP _ _ _)) f listed a w (aEp hi hfr) (by simpa using hrd) ?_ (fun _ _ _=>rfl) this),fun h=>by rw [ht] at h; cases h⟩
    rcases hy with ⟨hw,hy⟩|hy
    ·refine .inl ⟨hw,fun w' hS=>hy w' fun b hb=>?_⟩
     cases hmm:xA m.op with
     | true=>exact hS hmm b (.inr hb)
     | false=>exact absurd hb (hnm hmm b)
    ·exact .inr hy
   ·cases hm
  ·cases hm
 | e i k ih =>
  intro p pm top listed fuel R s C a w A hc hm hf hr hA hx
  simp only [chk,Bool.and_eq_true] at hc
  obtain ⟨⟨ht,hpm⟩,hc⟩:=hc
  simp only [mkP] at hm
  split at hm
  ·rename_i m k' h1 h2
   injection hm with hm
   subst hm
   obtain ⟨o,hi,hmo⟩:=Option.bind_eq_some_iff.1 h1
   obtain ⟨f,rfl⟩:∃ f,fuel=f + 1:=⟨fuel - 1,by simp only [PS.depth] at hf; omega⟩
   have hf':k.depth<=f:=by simp only [PS.depth] at hf; omega
   have main:wpOp c.P ops Q i (fun a' w'=>((!un.contains i)=true->∀ b,A b->w'.heap[b]?=w.heap[b]?)/\wpK c.P .any ops (fun i=>!un.contains i) Q A f (listed.setIfInBounds i true) a' w') a w:=by
    simp only [d4] at hx
    by_cases hu:un.contains i=true
    ·rw [if_pos hu] at hx
     refine wpOp_mono ?_ (uI (Q:=Q) hi hmo hr hx)
     rintro a' w' ⟨s',C',hK,hr'⟩
     exact ⟨(fun h=>by rw [hu] at h; cases h),(ih k' _ true _ f [] s' C' a' w' A hc h2 hf' hr' (fun h=>by rw [hu] at h; simp at h) hK).1 rfl⟩
    ·rw [if_neg hu] at hx
     have hpm':pm=true:=by rw [Bool.or_eq_true] at hpm; exact hpm.resolve_right hu
     have hA':pm=true->∀ b,A b->okB w c C (tF R s.o) b:=fun h b hb=>⟨(hA h b hb).1,(hA h b hb).2.imp id fun ⟨r,hr,x⟩=>⟨r,aIF hr,x⟩⟩
     generalize tF R s.o=R at hx hA'
     have h3:=aGJ hi (uI (c:=aDN c C R w) (Q:=Q) hi hmo (aJa hr R) hx)
     refine wpOp_mono ?_ h3
     rintro a' w' ⟨⟨s',C',⟨hok,hK⟩,hr'⟩,htm⟩
     obtain ⟨hdst,_,_⟩:=lP hmo
     simp only [wG,List.all_eq_true,Bool.and_eq_true,decide_eq_true_eq] at hok
     obtain ⟨g1,g2⟩:=aJs (dst:=m.dst) hr (fun r hm=>(hok r hm).1.1.1) (fun q hm r v e=>by have:=(hok q hm).1.1.2; rw [e] at this; exact List.contains_iff_mem.1 this) hr'
      (fun r hm=>by
       have:=(hok r hm).1.2
       split at this
       ·rename_i h; exact h
       ·cases this)
      (fun r hm=>(hok r hm).2) (by rw [hdst]; exact htm)
     refine ⟨fun _ b hb=>(g2 b (hA' hpm' b hb)).1,(ih k' _ true _ f R _ _ a' w' A hc h2 hf' g1 (fun _ b hb=>(g2 b (hA' hpm' b hb)).2) hK).1 rfl⟩
   refine ⟨fun htt=>?_,fun _ j hj=>?_⟩
   ·rw [htt] at ht
    have hrd:Region.ready .any ops listed=[i]:=by simpa using ht
    refine ⟨(fun h=>by rw [hrd] at h; cases h),fun j hj=>?_⟩
    rw [hrd] at hj
    obtain rfl:j=i:=by simpa using hj
    exact main
   ·obtain rfl:j=i:=by simpa [PS.tops] using hj
    exact main
  ·cases hm
 | br x y ihx ihy =>
  intro p pm top listed fuel R s C a w A hc hm hf hr hA hx
  simp only [chk,Bool.and_eq_true] at hc
  obtain ⟨⟨ht,hcx⟩,hcy⟩:=hc
  simp only [mkP] at hm
  split at hm
  ·rename_i x' y' h1 h2
   injection hm with hm
   subst hm
   simp only [d4] at hx
   have hdx:=aA3 x hcx
   simp only [PS.depth] at hf
   have gx:=(ihx x' pm false listed fuel R s C a w A hcx h1 (by omega) hr hA hx.1).2 rfl
   have gy:=(ihy y' pm false listed fuel R s C a w A hcy h2 (by omega) hr hA hx.2).2 rfl
   have all:∀ i∈(PS.br x y).tops,wpOp c.P ops Q i (fun a' w'=>((!un.contains i)=true->∀ b,A b->w'.heap[b]?=w.heap[b]?)/\wpK c.P .any ops (fun i=>!un.contains i) Q A (fuel - 1) (listed.setIfInBounds i true) a' w') a w:=by
    intro i hi
    rcases List.mem_append.1 hi with hi|hi
    ·exact gx i hi
    ·exact gy i hi
   refine ⟨fun htt=>?_,fun _=>all⟩
   rw [htt] at ht
   have hrd:Region.ready .any ops listed=x.tops ++ y.tops:=by simpa using ht
   obtain ⟨f,rfl⟩:∃ f,fuel=f + 1:=⟨fuel - 1,by omega⟩
   refine ⟨fun h=>?_,fun j hj=>by rw [hrd] at hj; exact all j hj⟩
   -- nothing may come up: then there was no head
   rw [hrd] at h
   exact absurd h (aFy x hcx y)
  ·cases hm
def wL (P:Program) (n:Nat×Nat) (ops:Array Oper) (ts:List Nat):Option (List Nat×MP):=match ts with
 | []=>none
 | k :: r=>match aIh (r.length + 1) (r.drop k) with
  | some (sk,[])=>if P.follows .mixedOrders && Region.noSelect ops && chk P n .any ops (r.take k) true true (Array.replicate ops.size false) sk && decide (sk.depth<=ops.size) then (mkP P n ops sk).map fun p=>(r.take k,p) else none
  | _=>none
theorem zB {ts un:List Nat} {p:MP} {id:Nat} {K:St->Prop} {Q:Exit->Act->World->Prop} (hp:wL c.P c.nn ops ts=some (un,p)) (hr:Rel c s C a w) (hx:d4 c.G un p [] s K) (hQ:∀ s C a w,Rel c s C a w->K s->Q .normal a w):(Code.region id ops true).wp c.P Q a w:=by
 unfold wL at hp
 split at hp
 ·cases hp
 ·rename_i k r
  split at hp
  ·rename_i sk hd
   split at hp
   ·rename_i hc
    simp only [Bool.and_eq_true,decide_eq_true_eq] at hc
    obtain ⟨⟨⟨h1,h2⟩,h3⟩,h4⟩:=hc
    obtain ⟨p',hp1,hp2⟩:=Option.map_eq_some_iff.1 hp
    injection hp2 with e1 e2
    subst e1 e2
    have hx2:kP w { w with drawn:=w.drawn + 1 }:=⟨rfl,rfl,rfl,Nat.le_refl _,fun _ _=>rfl⟩
    have hr':Rel c s C a { w with drawn:=w.drawn + 1 }:=⟨hr.tmps,hr.defers,fun t=>(hr.env t).ext hx2,hr.wd.ext hx2,hr.fix⟩
    have:=(aAk (c:=c) (ops:=ops) (un:=r.take k) (K:=K) (Q:=fun e a w=>e=.normal/\Q .normal a w) h2 (fun s C a w h1 h2=>⟨rfl,hQ s C a w h1 h2⟩) (fun ch a w h=>by cases h.1) sk p' true true _ ops.size [] s C a _ (fun _=>False) h3 hp1 h4 hr' (fun _ b hb=>hb.elim) hx).1 rfl
    refine Code.wp_mono ?_ (wp_region_any h1 (tE _ _ _ _ this))
    rintro e a w ⟨rfl,h⟩
    exact h
   ·cases hp
  ·cases hp
end
end Go.Pe
namespace Go.Pe
open Go Go.RowKit
inductive MC where
 | skip
 | reg (draw:Bool) (lv:List Nat) (ops:List MOp)
 | seq (a b:MC)
 | cond (c:Opd) (a b:MC)
 | block (id:Nat) (b:MC)
 | loop (b:MC)
 | exit (id:Nat)
 | ret
 | hole
 | any (un:List Nat) (lv:List Nat) (p:MP)
 | gh (m:MC)
def oQ (d:Nat) (m:MO):MOp:=⟨some d,none,false,m⟩
def oX (d:Nat) (m:MO):MOp:=⟨some d,none,true,m⟩
def oN (m:MO):MOp:=⟨none,none,true,m⟩
def oG (d t:Nat) (b:Bool) (m:MO):MOp:=⟨some d,some (t,b),false,m⟩
def oH (d t:Nat) (b:Bool) (m:MO):MOp:=⟨some d,some (t,b),true,m⟩
def kI (n:Int):Opd:=.k (.d (.int .i64 n))
def kB (b:Bool):Opd:=.k (.d (.bool b))
theorem wQ:((∀ d m,oQ d m=⟨some d,none,false,m⟩)/\(∀ d m,oX d m=⟨some d,none,true,m⟩)/\∀ m,oN m=⟨none,none,true,m⟩)/\(∀ d t b m,oG d t b m=⟨some d,some (t,b),false,m⟩)/\(∀ d t b m,oH d t b m=⟨some d,some (t,b),true,m⟩)/\(∀ n,kI n=.k (.d (.int .i64 n)))/\∀ b,kB b=.k (.d (.bool b)) :=
 ⟨⟨fun _ _=>rfl,fun _ _=>rfl,fun _=>rfl⟩,fun _ _ _ _=>rfl,fun _ _ _ _=>rfl,fun _=>rfl,fun _=>rfl⟩
def aBj (lv:List (Nat×List Nat)) (id:Nat):List Nat :=
 match lv with
 | []=>[]
 |(k,l) :: r=>if k=id then l else aBj r id
def aEn (P:Program) (n:Nat×Nat) (lv:List (Nat×List Nat)) (id:Nat) (draw:Bool) (ops:Array Oper):Option (List MOp) :=
 if draw && !(aBj lv (id + 1000000)).isEmpty then none else lB P n draw ops ops.toList
theorem aDF {P:Program} {n:Nat×Nat} {lv:List (Nat×List Nat)} {id:Nat} {draw:Bool} {ops:Array Oper} {ms:List MOp} (h:aEn P n lv id draw ops=some ms):lB P n draw ops ops.toList=some ms:=by
 unfold aEn at h
 split at h
 ·cases h
 ·exact h
def comp (P:Program) (n:Nat×Nat) (lv:List (Nat×List Nat)):Code->Option MC
 | .skip=>some .skip
 | .region id ops draw=>match aEn P n lv id draw ops with
  | some ms=>if draw then (if P.follows .mixedOrders && Region.lexB .any ops then some (.reg true (aBj lv id) ms) else none) else some (.reg false (aBj lv id) ms)
  | none=>if draw then (match wL P n ops (aBj lv (id + 1000000)) with
   | some (un,p)=>some (.any un (aBj lv id) p)
   | none=>some .hole) else some .hole
 | .seq a b=>match comp P n lv a,comp P n lv b with
  | some x,some y=>some (.seq x y)
  | _,_=>none
 | .cond c a b=>match lQ c,comp P n lv a,comp P n lv b with
  | some c,some x,some y=>some (.cond c x y)
  | _,_,_=>none
 | .block id b=>(comp P n lv b).map (.block id)
 | .loop b=>(comp P n lv b).map .loop
 | .exit id=>some (.exit id)
 | .ret=>some .ret
 | _=>none
def gX:MC->MC
 | .seq a b=>.seq (gX a) (gX b)
 | .cond c a b=>.cond c (gX a) (gX b)
 | .block id b=>.block id (gX b)
 | .loop b=>.loop (gX b)
 | .gh m=>gX m
 | m=>m
def eR:List Nat->MC->MC
 | [],m=>.gh m
 | 0 :: p,.seq a b=>.seq (eR p a) b
 | _ :: p,.seq a b=>.seq a (eR p b)
 | 0 :: p,.cond c a b=>.cond c (eR p a) b
 | _ :: p,.cond c a b=>.cond c a (eR p b)
 | _ :: p,.block id b=>.block id (eR p b)
 | _ :: p,.loop b=>.loop (eR p b)
 | _ :: p,.gh m=>.gh (eR p m)
 | _,m=>m
def dP:List (List Nat)->MC->MC
 | [],m=>m
 | p :: ps,m=>dP ps (eR p m)
theorem aEa:∀ (p:List Nat) (m:MC),gX (eR p m)=gX m:=by
 intro p m
 induction m generalizing p with
 | seq a b iha ihb=>cases p with
  | nil=>rfl
  | cons k p=>cases k<;>simp [eR,gX,iha,ihb]
 | cond c a b iha ihb=>cases p with
  | nil=>rfl
  | cons k p=>cases k<;>simp [eR,gX,iha,ihb]
 | block id b ih=>cases p with
  | nil=>rfl
  | cons k p=>cases k<;>simp [eR,gX,ih]
 | loop b ih=>cases p with
  | nil=>rfl
  | cons k p=>cases k<;>simp [eR,gX,ih]
 | gh b ih=>cases p with
  | nil=>rfl
  | cons k p=>cases k<;>simp [eR,gX,ih]
 | _=>cases p with
  | nil=>rfl
  | cons k p=>cases k<;>rfl
theorem lY:∀ (ps:List (List Nat)) (m:MC),gX (dP ps m)=gX m
 | [],_=>rfl
 | p :: ps,m=>by rw [dP,lY ps,aEa]
theorem zR {P:Program} {n:Nat×Nat} {lv:List (Nat×List Nat)}:∀ (code:Code) (m:MC),comp P n lv code=some m->gX m=m:=by
 intro code
 induction code with
 | seq a b iha ihb =>
  intro m h
  simp only [comp] at h
  split at h
  ·rename_i x y h1 h2
   injection h with h
   subst h
   simp only [gX,iha _ h1,ihb _ h2]
  ·cases h
 | cond c a b iha ihb =>
  intro m h
  simp only [comp] at h
  split at h
  ·rename_i p x y h0 h1 h2
   injection h with h
   subst h
   simp only [gX,iha _ h1,ihb _ h2]
  ·cases h
 | block id b ih =>
  intro m h
  obtain ⟨x,h1,rfl⟩:=Option.map_eq_some_iff.1 h
  simp only [gX,ih _ h1]
 | loop b ih =>
  intro m h
  obtain ⟨x,h1,rfl⟩:=Option.map_eq_some_iff.1 h
  simp only [gX,ih _ h1]
 | region id ops d =>
  intro m h
  simp only [comp] at h
  split at h
  ·split at h
   ·split at h
    ·injection h with h; subst h; rfl
    ·cases h
   ·injection h with h; subst h; rfl
  ·split at h
   ·split at h
    ·injection h with h; subst h; rfl
    ·injection h with h; subst h; rfl
   ·injection h with h; subst h; rfl
 | skip=>intro m h; injection h with h; subst h; rfl
 | exit id=>intro m h; injection h with h; subst h; rfl
 | ret=>intro m h; injection h with h; subst h; rfl
 | _=>intro m h; cases h
def kS:List Nat->gI->gI
 | [],_=>[]
 | t :: ts,e=>(t,look e t) :: kS ts e
theorem jI:∀ (ts:List Nat) (e:gI) (t:Nat),look (kS ts e) t=.any\/look (kS ts e) t=look e t
 | [],e,t=>.inl rfl
 | k :: ts,e,t=>by
  simp only [kS,look]
  by_cases h:k=t
  ·subst h; simp
  ·rw [if_neg h]; exact jI ts e t
def vZ (c:Ctx) (m:MC) (s:St) (Q:Exit->St->Prop):Prop :=
 ∀ lv code,comp c.P c.nn lv code=some m->∀ C a w,Rel c s C a w->code.wp c.P (fun e a' w'=>∃ s' C',Q e s'/\Rel c s' C' a' w') a w
def nY (k:St->Prop) (Q:Exit->St->Prop):Exit->St->Prop
 | .normal,s=>k s
 | e,s=>Q e s
def inB (id:Nat) (Q:Exit->St->Prop):Exit->St->Prop
 | .exit i,s=>if i=id then Q .normal s else Q (.exit i) s
 | e,s=>Q e s
section
variable {c : Ctx} {s : St} {Q : Exit -> St -> Prop}
theorem Rel.weak {C:List OC} {a:Act} {w:World} {e':gI} (h:Rel c s C a w) (he:∀ t,look e' t=.any\/look e' t=look s.e t):Rel c ⟨e',s.o⟩ C a w where
 tmps:=h.tmps
 defers:=h.defers
 env:=fun t=>by
  rcases he t with h1|h1
  ·simp only [h1]; trivial
  ·simp only [h1]; exact h.env t
 wd:=h.wd
 fix:=h.fix
theorem aIC (h:Q .normal s):vZ c .skip s Q:=by
 intro lv code hc C a w hr
 cases code<;>simp only [comp] at hc
 case skip=>exact wp_skip ⟨s,C,h,hr⟩
 all_goals first
  |(split at hc<;>(try split at hc)<;>(try split at hc)<;>first|cases hc|(injection hc with hc; cases hc))
  |(simp only [Option.map_eq_some_iff] at hc; obtain ⟨_,_,hc⟩:=hc; cases hc)
  |(injection hc with hc; cases hc)
  | cases hc
theorem aCD {lv:List (Nat×List Nat)} {code:Code} {x y:MC} (hc:comp c.P c.nn lv code=some (.seq x y)):∃ a b,code=.seq a b/\comp c.P c.nn lv a=some x/\comp c.P c.nn lv b=some y:=by
 cases code<;>simp only [comp] at hc
 case seq a b =>
  split at hc
  ·rename_i x' y' h1 h2
   injection hc with hc
   injection hc with hx hy
   subst hx hy
   exact ⟨a,b,rfl,h1,h2⟩
  ·cases hc
 all_goals first
  |(split at hc<;>(try split at hc)<;>(try split at hc)<;>first|cases hc|(injection hc with hc; cases hc))
  |(simp only [Option.map_eq_some_iff] at hc; obtain ⟨_,_,hc⟩:=hc; cases hc)
  |(injection hc with hc; cases hc)
  | cases hc
theorem aAU {lv:List (Nat×List Nat)} {code:Code} {p:Opd} {x y:MC} (hc:comp c.P c.nn lv code=some (.cond p x y)):∃ q a b,code=.cond q a b/\lQ q=some p/\comp c.P c.nn lv a=some x/\comp c.P c.nn lv b=some y:=by
 cases code<;>simp only [comp] at hc
 case cond q a b =>
  split at hc
  ·rename_i p' x' y' h0 h1 h2
   injection hc with hc
   injection hc with hp hx hy
   subst hp hx hy
   exact ⟨q,a,b,rfl,h0,h1,h2⟩
  ·cases hc
 all_goals first
  |(split at hc<;>(try split at hc)<;>(try split at hc)<;>first|cases hc|(injection hc with hc; cases hc))
  |(simp only [Option.map_eq_some_iff] at hc; obtain ⟨_,_,hc⟩:=hc; cases hc)
  |(injection hc with hc; cases hc)
  | cases hc
theorem aAn {lv:List (Nat×List Nat)} {code:Code} {id:Nat} {x:MC} (hc:comp c.P c.nn lv code=some (.block id x)):∃ b,code=.block id b/\comp c.P c.nn lv b=some x:=by
 cases code<;>simp only [comp] at hc
 case block id' b =>
  obtain ⟨x',h1,h2⟩:=Option.map_eq_some_iff.1 hc
  injection h2 with h2 h3
  subst h2 h3
  exact ⟨b,rfl,h1⟩
 all_goals first
  |(split at hc<;>(try split at hc)<;>(try split at hc)<;>first|cases hc|(injection hc with hc; cases hc))
  |(simp only [Option.map_eq_some_iff] at hc; obtain ⟨_,_,hc⟩:=hc; cases hc)
  |(injection hc with hc; cases hc)
  | cases hc
theorem aGV {lv:List (Nat×List Nat)} {code:Code} {x:MC} (hc:comp c.P c.nn lv code=some (.loop x)):∃ b,code=.loop b/\comp c.P c.nn lv b=some x:=by
 cases code<;>simp only [comp] at hc
 case loop b =>
  obtain ⟨x',h1,h2⟩:=Option.map_eq_some_iff.1 hc
  injection h2 with h2
  subst h2
  exact ⟨b,rfl,h1⟩
 all_goals first
  |(split at hc<;>(try split at hc)<;>(try split at hc)<;>first|cases hc|(injection hc with hc; cases hc))
  |(simp only [Option.map_eq_some_iff] at hc; obtain ⟨_,_,hc⟩:=hc; cases hc)
  |(injection hc with hc; cases hc)
  | cases hc
theorem aBA {lv:List (Nat×List Nat)} {code:Code} {id:Nat} (hc:comp c.P c.nn lv code=some (.exit id)):code=.exit id:=by
 cases code<;>simp only [comp] at hc
 case exit=>injection hc with hc; injection hc with hc; subst hc; rfl
 all_goals first
  |(split at hc<;>(try split at hc)<;>(try split at hc)<;>first|cases hc|(injection hc with hc; cases hc))
  |(simp only [Option.map_eq_some_iff] at hc; obtain ⟨_,_,hc⟩:=hc; cases hc)
  |(injection hc with hc; cases hc)
  | cases hc
theorem aIO {lv:List (Nat×List Nat)} {code:Code} (hc:comp c.P c.nn lv code=some .ret):code=.ret:=by
 cases code<;>simp only [comp] at hc
 case ret=>rfl
 all_goals first
  |(split at hc<;>(try split at hc)<;>(try split at hc)<;>first|cases hc|(injection hc with hc; cases hc))
  |(simp only [Option.map_eq_some_iff] at hc; obtain ⟨_,_,hc⟩:=hc; cases hc)
  |(injection hc with hc; cases hc)
  | cases hc
theorem aDk {lv:List (Nat×List Nat)} {code:Code} {draw:Bool} {l:List Nat} {ms:List MOp} (hc:comp c.P c.nn lv code=some (.reg draw l ms)) :
  ∃ id ops,code=.region id ops draw/\lB c.P c.nn draw ops ops.toList=some ms/\(draw=true->c.P.follows .mixedOrders=true/\Region.lexB .any ops=true):=by
 cases code<;>simp only [comp] at hc
 case region id ops d =>
  split at hc
  ·rename_i ms' h1
   have h1:=aDF h1
   cases d with
   | true =>
    simp only [if_true] at hc
    split at hc
    ·rename_i h2
     injection hc with hc
     injection hc with h3 _ h5
     subst h3 h5
     exact ⟨id,ops,rfl,h1,fun _=>by simpa using h2⟩
    ·cases hc
   | false =>
    simp only [Bool.false_eq_true,if_false] at hc
    injection hc with hc
    injection hc with h3 _ h5
    subst h3 h5
    exact ⟨id,ops,rfl,h1,fun h=>by cases h⟩
  ·cases d with
   | true =>
    simp only [if_true] at hc
    split at hc<;>(injection hc with hc; cases hc)
   | false =>
    simp only [Bool.false_eq_true,if_false] at hc
    injection hc with hc; cases hc
 all_goals first
  |(split at hc<;>(try split at hc)<;>(try split at hc)<;>first|cases hc|(injection hc with hc; cases hc))
  |(simp only [Option.map_eq_some_iff] at hc; obtain ⟨_,_,hc⟩:=hc; cases hc)
  |(injection hc with hc; cases hc)
  | cases hc
theorem aC5 {lv:List (Nat×List Nat)} {code:Code} {un l:List Nat} {p:MP} (hc:comp c.P c.nn lv code=some (.any un l p)) :
  ∃ id ops ts,code=.region id ops true/\wL c.P c.nn ops ts=some (un,p):=by
 cases code<;>simp only [comp] at hc
 case region id ops d =>
  split at hc
  ·split at hc
   ·split at hc
    ·injection hc with hc; cases hc
    ·cases hc
   ·injection hc with hc; cases hc
  ·cases d with
   | true =>
    simp only [if_true] at hc
    split at hc
    ·rename_i un' p' h1
     injection hc with hc
     injection hc with h2 h3 h4
     subst h2 h4
     exact ⟨id,ops,_,rfl,h1⟩
    ·injection hc with hc; cases hc
   | false =>
    simp only [Bool.false_eq_true,if_false] at hc
    injection hc with hc; cases hc
 all_goals first
  |(split at hc<;>(try split at hc)<;>(try split at hc)<;>first|cases hc|(injection hc with hc; cases hc))
  |(simp only [Option.map_eq_some_iff] at hc; obtain ⟨_,_,hc⟩:=hc; cases hc)
  |(injection hc with hc; cases hc)
  | cases hc
theorem rA {draw:Bool} {ops:Array Oper}:∀ (os:List Oper) (ms:List MOp),lB c.P c.nn draw ops os=some ms->∀ o∈os,∀ d,o.dst=some d->c.lo<=d/\d < c.n
 | [],_,_=>fun o h=>by cases h
 | o :: os,ms,h=>by
  unfold lB at h
  split at h
  ·rename_i m ms' h1 h2
   intro o' ho
   rcases List.mem_cons.1 ho with ho|ho
   ·subst ho; exact (lP h1).2.2
   ·exact rA os ms' h2 o' ho
  ·cases h
theorem aK7 {x y:MC} (h:vZ c x s (nY (fun s'=>vZ c y s' Q) Q)):vZ c (.seq x y) s Q:=by
 intro lv code hc C a w hr
 obtain ⟨a',b',rfl,h1,h2⟩:=aCD hc
 refine wp_seq (Code.wp_mono ?_ (h lv a' h1 C a w hr))
 rintro e a1 w1 ⟨s1,C1,hq,hr1⟩
 cases e with
 | normal=>exact hq lv b' h2 C1 a1 w1 hr1
 | _=>exact ⟨s1,C1,hq,hr1⟩
theorem aHB {p:Opd} {x y:MC} {b:Bool} (hb:lZ s.e p=.d (.bool b)) (h1:b=true->vZ c x s Q) (h2:b=false->vZ c y s Q):vZ c (.cond p x y) s Q:=by
 intro lv code hc C a w hr
 obtain ⟨q,a',b',rfl,h3,h4,h5⟩:=aAU hc
 have hv:=gV hr h3
 rw [hb] at hv
 exact wp_cond_split (cR.1 hv) (fun h=>h1 h lv a' h4 C a w hr) (fun h=>h2 h lv b' h5 C a w hr)
theorem aGw {id:Nat} {x:MC} (h:vZ c x s (inB id Q)):vZ c (.block id x) s Q:=by
 intro lv code hc C a w hr
 obtain ⟨b',rfl,h1⟩:=aAn hc
 refine wp_block (Code.wp_mono ?_ (h lv b' h1 C a w hr))
 rintro e a1 w1 ⟨s1,C1,hq,hr1⟩
 cases e with
 | exit i =>
  simp only [inB] at hq
  simp only [Exit.inBlock]
  split
  ·rename_i hi; rw [if_pos hi] at hq; exact ⟨s1,C1,hq,hr1⟩
  ·rename_i hi; rw [if_neg hi] at hq; exact ⟨s1,C1,hq,hr1⟩
 | _=>exact ⟨s1,C1,hq,hr1⟩
theorem aIV {id:Nat} (h:Q (.exit id) s):vZ c (.exit id) s Q:=by
 intro lv code hc C a w hr
 have:=aBA hc
 subst this
 exact wp_exit ⟨s,C,h,hr⟩
theorem aK3 (h:Q .ret s):vZ c .ret s Q:=by
 intro lv code hc C a w hr
 have:=aIO hc
 subst this
 exact wp_ret ⟨s,C,h,hr⟩
def aKb (n:Nat):SV->Bool
 | .own r=>decide (r < n)
 | .ptr r _ _=>decide (r < n)
 | .el r _ _ _ _=>decide (r < n)
 | .vw r=>decide (r < n)
 | .win r _ _=>decide (r < n)
 | .tup _=>false
 | _=>true
def wT (n:Nat):List Ob->Bool
 | []=>true
 | .tag r _ :: o=>decide (r < n) && wT n o
 | _ :: o=>wT n o
theorem aBs {n:Nat}:∀ {o:List Ob} {q r:Nat} {v:Value},wT n o=true->o[q]?=some (.tag r v)->r < n
 | [],q,r,v,_,h=>by simp at h
 | ob :: o,0,r,v,hn,h=>by
  simp only [List.getElem?_cons_zero,Option.some.injEq] at h
  subst h
  simp only [wT,Bool.and_eq_true,decide_eq_true_eq] at hn
  exact hn.1
 | ob :: o,q + 1,r,v,hn,h=>by
  refine aBs (o:=o) (q:=q) (v:=v) ?_ (by simpa using h)
  cases ob<;>simp only [wT,Bool.and_eq_true] at hn<;>first|exact hn|exact hn.2
def aFN (s s':St):Prop:=(∃ x,s.o=s'.o ++ x)/\(∀ t,look s'.e t=.any\/(look s'.e t=look s.e t/\aKb s'.o.length (look s'.e t)=true))/\wT s'.o.length s'.o=true
theorem Rel.weaken0 {s':St} {C:List OC} {a:Act} {w:World} (h:Rel c s C a w) (hk:aFN s s'):∃ C',Rel c s' C' a w:=by
 obtain ⟨⟨x,hx⟩,he,htb⟩:=hk
 have hlen:s'.o.length<=C.length:=by rw [<- h.wd.len,hx]; simp
 have hsub:∀ b∈dN (C.take s'.o.length),b∈dN C:=by
  intro b hb
  obtain ⟨r,oc,h1,h2⟩:=bP.1 hb
  rw [List.getElem?_take] at h1
  split at h1
  ·exact bP.2 ⟨r,oc,h1,h2⟩
  ·cases h1
 have hmem:∀ b∈dN (C.take s'.o.length),(b∈dN C\/w.heap.size<=b)/\b < w.heap.size:=fun b hb=>⟨.inl (hsub b hb),h.wd.lt b (hsub b hb)⟩
 have hnd:=cD.1 h.wd.nodup
 refine ⟨C.take s'.o.length,h.tmps,h.defers,fun t=>?_,h.wd.upd (X:=fun _=>False) (Went.of_ext (kP.refl w) _) (fun b hb=>hb.elim) ?_ ?_ ?_ hmem ?_ ?_,h.fix⟩
 ·rcases he t with h1|⟨h1,h2⟩
  ·simp only [h1]; trivial
  ·have hv:=h.env t
   rw [<- h1] at hv
   generalize look s'.e t=q at *
   have key:∀ (r:Nat),r < s'.o.length->(C.take s'.o.length)[r]?=C[r]?:=fun r hr=>by rw [List.getElem?_take,if_pos hr]
   refine pD (e7.upd (C:=C) (X:=fun _=>False) (Went.of_ext (kP.refl w) _) (fun b hb=>hb.elim) hmem ?_ ?_ ?_)
   ·intro r oc hr hC
    refine ⟨oc,?_,rfl,rfl⟩
    rw [key r ?_]; exact hC
    cases q<;>simp only [iR,beq_iff_eq,Bool.false_eq_true] at hr<;>simp only [aKb,decide_eq_true_eq] at h2<;>omega
   ·intro r oc oc' hq hC hb hC'
    have hr:r < s'.o.length:=by rw [hq] at h2; simpa [aKb] using h2
    rw [key r hr,hC] at hC'
    injection hC' with hC'
    subst hC'
    exact ⟨hb,fun h=>h⟩
   ·cases q<;>first|exact hv|cases h2
 ·rw [List.length_take,Nat.min_eq_left hlen]
 ·intro r ob oc h1 h2
  have hr:=bC h1
  rw [List.getElem?_take,if_pos hr] at h2
  exact .inl ⟨by rw [hx,List.getElem?_append_left hr]; exact h1,h2,fun _ _ h=>h⟩
 ·refine cD.2 ⟨fun r oc h1=>?_,fun r q oc od hne h1 h2=>?_⟩
  ·rw [List.getElem?_take] at h1
   split at h1
   ·exact hnd.1 r oc h1
   ·cases h1
  ·rw [List.getElem?_take] at h1 h2
   split at h1<;>split at h2
   ·exact hnd.2 r q oc od hne h1 h2
   all_goals first|cases h1|cases h2
 ·intro q r v hq
  exact .inl (by rw [hx,List.getElem?_append_left (bC hq)]; exact hq)
 ·intro q r v od hq h
  exact ⟨od,by rw [List.getElem?_take,if_pos (aBs htb hq)]; exact h,rfl⟩
def eN (s s':St):Prop:=∀ (c:Ctx) (C:List OC) (a:Act) (w:World),Rel c s C a w->∃ C',Rel c s' C' a w
theorem aFN.weak {s s':St} (h:aFN s s'):eN s s':=fun _ _ _ _ hr=>hr.weaken0 h
theorem eN.refl (s:St):eN s s:=fun _ C _ _ hr=>⟨C,hr⟩
theorem eN.trans {s t u:St} (h:eN s t) (k:eN t u):eN s u:=fun c C a w hr=>by
 obtain ⟨C',hr'⟩:=h c C a w hr
 exact k c C' a w hr'
theorem Rel.weaken {s':St} {C:List OC} {a:Act} {w:World} (h:Rel c s C a w) (hk:eN s s'):∃ C',Rel c s' C' a w:=hk c C a w h
theorem eN.x {s s':St} (h:eN s s'):iT s (fun _:Unit=>s'):=fun c C a w hr=>⟨(),h c C a w hr⟩
theorem aGo {m:MC} {α:Type} {S:α->St} (hk:iT s S) (h:∀ x,vZ c m (S x) Q):vZ c m s Q:=by
 intro lv code hc C a w hr
 obtain ⟨x,C',hr'⟩:=hk c C a w hr
 exact h x lv code hc C' a w hr'
theorem aK4 {m:MC} (t es:Nat) (ht:look s.e t=.nil) (h:vZ c m ⟨(t,.own s.o.length) :: s.e,s.o ++ [.val (.sl true es .nil)]⟩ Q):vZ c m s Q:=by
 intro lv code hc C a w hr
 have hv:=hr.env t
 rw [ht] at hv
 have hv:a.tmps.getD t Go.undef=.slice none 0 0:=hv
 have hn:=aNx hr.wd (w':=w) (obs:=[.val (.sl true es .nil)]) (ocs:=[{ v:=.slice none 0 0,blk:=0,fp:=[] }]) (kP.refl w) rfl (by simp [dN]) (fun b hb=>by simp [dN] at hb) (fun j ob oc h1 h2=>by
  cases j with
  | zero =>
   simp only [List.getElem?_cons_zero,Option.some.injEq] at h1 h2
   subst h1 h2
   exact ⟨[.slice none 0 0],⟨trivial,none,0,[],[],rfl,Nat.le_refl _,⟨rfl,rfl⟩,by simp⟩,rfl⟩
  | succ j=>simp at h1) (fun j r v hj=>by cases j<;>simp at hj)
 refine h lv code hc _ a w ⟨hr.tmps,hr.defers,fun u=>?_,hn.1,hr.fix⟩
 simp only [look]
 by_cases e:t=u
 ·subst e
  simp only [if_true]
  exact ⟨{ v:=.slice none 0 0,blk:=0,fp:=[] },by rw [List.getElem?_append_right (by rw [hr.wd.len]; exact Nat.le_refl _),hr.wd.len,Nat.sub_self]; rfl,hv⟩
 ·simp only [e,if_false]; exact hn.2 _ _ hr.env u
theorem aLw {un lv:List Nat} {p:MP} {J:St->Prop} (hx:d4 c.G un p [] s fun s'=>J ⟨kS lv s'.e,s'.o⟩) (hJ:∀ s',J s'->∃ s1,eN s' s1/\Q .normal s1):vZ c (.any un lv p) s Q:=by
 intro lv' code hc C a w hr
 obtain ⟨id,ops,ts,rfl,hp⟩:=aC5 hc
 refine zB hp hr hx ?_
 intro s' C' a' w' hr' hK
 obtain ⟨s1,h1,h2⟩:=hJ _ hK
 obtain ⟨C1,h3⟩:=(hr'.weak (e':=kS lv s'.e) (jI lv s'.e)).weaken h1
 exact ⟨s1,C1,h2,h3⟩
theorem aIR {α:Type} {b:MC} (S:α->St) (inv:α->Prop) (μ:α->Nat) (x0:α) (h0:eN s (S x0)) (hi:inv x0)
  (body:∀ x,inv x->vZ c b (S x) (nY (fun s'=>∃ y,eN s' (S y)/\inv y/\μ y < μ x) Q)):vZ c (.loop b) s Q:=by
 intro lv code hc C a w hr
 obtain ⟨b',rfl,h1⟩:=aGV hc
 obtain ⟨C',hr'⟩:=hr.weaken h0
 refine wp_loop_ghost (fun n a w=>∃ x C,μ x=n/\inv x/\Rel c (S x) C a w) (μ x0) ⟨x0,C',rfl,hi,hr'⟩ ?_
 rintro n a w ⟨x,C,rfl,hx,hrx⟩
 refine Code.wp_mono ?_ (body x hx lv b' h1 C a w hrx)
 rintro e a1 w1 ⟨s1,C1,hq,hr1⟩
 cases e with
 | normal =>
  obtain ⟨y,h2,h3,h4⟩:=hq
  obtain ⟨C2,hr2⟩:=hr1.weaken h2
  exact ⟨μ y,h4,y,C2,rfl,h3,hr2⟩
 | _=>exact ⟨s1,C1,hq,hr1⟩
end
end Go.Pe
namespace Go.Pe
open Go Go.RowKit
def fO (e:gI):List Ob->List ResultVar->(List D->Prop)->Prop
 | _,[],K=>K []
 | o,.tmp t :: r,K=>kR o (look e t) fun x o1 _=>fO e o1 r fun xs=>K (x :: xs)
 | o,.cell t _ :: r,K=>match look e t with
  | .ptr q 0 []=>∃ xs,o[q]?=some (.box (.st xs))/\fO e (o.set q .dead) r fun ys=>K (.st xs :: ys)
  | _=>False
def eD:gI->List Ob->List ResultVar->(List D->List Ob->Prop)->Prop
 | _,o,[],K=>K [] o
 | e,o,.tmp t :: r,K=>kR o (look e t) fun x o1 _=>eD e o1 r fun xs o2=>K (x :: xs) o2
 | e,o,.cell t _ :: r,K=>match look e t with
  | .ptr q 0 []=>∃ xs,o[q]?=some (.box (.st xs))/\eD e (o.set q .dead) r fun ys o2=>K (.st xs :: ys) o2
  | _=>False
def b6 (P:Program) (rs:List ResultVar):Bool :=
 rs.all fun r=>match r with
  | .tmp _=>true
  | .cell _ t=>match P.underlying t with
   | some (.struct _)=>true
   | _=>false
def eE (P:Program) (e:gI) (o:List Ob):List ResultVar->Prop
 | []=>True
 | .tmp _ :: r=>eE P e o r
 | .cell t ty :: r=>(∀ q xs,look e t=.ptr q 0 []->o[q]?=some (.box (.st xs))->dE P ty=some xs.size)/\eE P e o r
def kX:Nat->List D->gI
 | _,[]=>[]
 | n,x :: xs=>(n,.d x) :: kX (n + 1) xs
theorem s8:∀ (ds:List D) (n t:Nat),look (kX n ds) t=if n<=t then (match ds[t - n]? with|some x=>.d x|none=>.any) else .any
 | [],n,t=>by simp [kX,look]
 | x :: xs,n,t=>by
  simp only [kX,look]
  by_cases h:n=t
  ·subst h; simp
  ·rw [if_neg h,s8 xs (n + 1) t]
   by_cases h2:n + 1<=t
   ·rw [if_pos h2,if_pos (by omega),show t - n=(t - (n + 1)) + 1 by omega,List.getElem?_cons_succ]
   ·rw [if_neg h2,if_neg (by omega)]
theorem mS {w:World} {M:Nat->Prop}:∀ (ds:List D) (vs:List Value) (fp:List Nat),dI w M ds vs fp->vs.length=ds.length
 | [],vs,fp,h=>by rw [h.1]; rfl
 | x :: xs,vs,fp,h=>by
  obtain ⟨cs,us,f1,f2,rfl,_,_,h2⟩:=h
  simp [mS xs us f2 h2]
theorem rV {w:World} {M:Nat->Prop}:∀ (ds:List D) (vs:List Value),dI w M ds vs []->∀ (i:Nat) (x:D) (v:Value),ds[i]?=some x->vs[i]?=some v->∃ cs,x.rep w M cs []/\v=fD x cs
 | [],vs,h,i,x,v,hx,_=>by simp at hx
 | y :: ys,vs,h,i,x,v,hx,hv=>by
  obtain ⟨cs,us,f1,f2,rfl,hf,h1,h2⟩:=h
  have:f1=[]/\f2=[]:=by simpa using hf.symm
  obtain ⟨rfl,rfl⟩:=this
  cases i with
  | zero =>
   simp only [List.getElem?_cons_zero,Option.some.injEq] at hx hv
   subst hx hv
   exact ⟨cs,h1,rfl⟩
  | succ i=>exact rV ys us h2 i x v (by simpa using hx) (by simpa using hv)
section
variable {c : Ctx} {s : St} {C : List OC} {a : Act} {w : World}
def aBX (tmps:Array Value):ResultVar->Sem Value
 | .tmp t=>pure (tmps.getD t Go.undef)
 | .cell a t=>do loadVar t (<- asAddr (tmps.getD a Go.undef))
theorem oD (hr:Rel c s C a w):∀ (rvs:List ResultVar) (o1:List Ob) (C1:List OC) (ks L:List Nat) (K:List D->Prop),Loose s.o C o1 C1 ks L->b6 c.P rvs=true->eE c.P s.e s.o rvs->fO s.e o1 rvs K ->
  ∃ xs us fp L',K xs/\(rvs.mapM (aBX a.tmps)).run c.P w=.ok us w/\dI w (Ms c C) xs us fp/\L'=L ++ fp/\L'.Nodup/\(∀ b∈L',b∈dN C)
 | [],o1,C1,ks,L,K,hl,_,_,h=>⟨[],[],[],L,h,rfl,⟨rfl,rfl⟩,by simp,hl.lnodup,hl.lsub⟩
 | .tmp t :: rvs,o1,C1,ks,L,K,hl,hok,hsz,h=>by
  simp only [fO] at h
  obtain ⟨x,o2,C2,kr,cs,fp,hK,hv,hx,hl2⟩:=lX hr.wd hl (hr.env t) h
  simp only [b6,List.all_cons,Bool.true_and] at hok
  obtain ⟨xs,us,fq,L',h1,h2,h3,h4,h5,h6⟩:=oD hr rvs o2 C2 _ _ _ hl2 hok hsz hK
  refine ⟨x :: xs,a.tmps.getD t Go.undef :: us,fp ++ fq,L',h1,?_,⟨cs,us,fp,fq,by rw [hv],rfl,hx,h3⟩,by rw [h4,List.append_assoc],h5,h6⟩
  rw [List.mapM_cons,Sem.run_bind]
  simp only [aBX,Sem.run_pure,Result.andThen_ok]
  rw [Sem.run_bind,h2]
  rfl
 | .cell t ty :: rvs,o1,C1,ks,L,K,hl,hok,hsz,h=>by
  simp only [fO] at h
  split at h
  ·rename_i q hq
   obtain ⟨xs,hbox,h⟩:=h
   have hv:=hr.env t
   rw [hq] at hv
   obtain ⟨oc,hC,hv⟩:=hv
   obtain ⟨oc1,h3,_,_,h4⟩:=hl.same q oc hC
   rcases hl.obs q _ oc1 hbox h3 with ⟨h5,h6,h7⟩|⟨h5,_⟩
   case inr=>cases h5
   have:=h4 h7
   subst this
   obtain ⟨cs,fps,hrow,hrep,hfp⟩:=hr.wd.obs q _ oc1 h5 h6
   simp only [b6,List.all_cons,Bool.and_eq_true] at hok
   have hsz1:=hsz.1 q xs hq h5
   simp only [dE,Option.map_eq_some_iff] at hsz1
   obtain ⟨i,hi,hin⟩:=hsz1
   have hst:∃ fs,c.P.underlying ty=some (.struct fs):=by
    have h1:=hok.1
    split at h1
    ·rename_i fs hu; exact ⟨fs,hu⟩
    ·cases h1
   obtain ⟨fs,hu⟩:=hst
   have hcell:∀ j u,cs[j]?=some u->w.cell? ((⟨oc1.blk,0,none⟩:Addr).add j)=some u:=by
    have:=iO.of_row (M:=fun _=>False) hrow (fun h=>h)
    rcases this with h8|h8
    ·exact fun j u hu=>by rw [h8] at hu; simp at hu
    ·exact h8.2.2
   have hld:=lN (P:=c.P) (w:=w) (ad:=⟨oc1.blk,0,none⟩) (ds:=cs) hu hi (by rw [b7 (.st xs) _ _ hrep,hin]; rfl) hcell
   simp only [Instr.loadAt,Instr.sureAddr] at hld
   have hd:=hl.drop hbox h3
   have hd2:Loose s.o C (o1.set q .dead) (C1.set q { oc1 with fp:=[] }) (ks ++ [q]) (L ++ fps):=by
    rw [hfp] at hd
    refine ⟨hd.len,hd.clen,hd.obs,hd.same,fun b hb=>⟨(hd.fps b hb).1,fun hb'=>(hd.fps b hb).2 ?_⟩,hd.nodup,?_,fun b hb=>hd.lsub b ?_⟩
    ·simp only [List.mem_append,List.mem_cons] at hb' ⊢
     exact hb'.imp id .inr
    ·have:=hd.lnodup
     rw [List.nodup_append] at this ⊢
     exact ⟨this.1,(List.nodup_cons.1 this.2.1).2,fun a ha b hb=>this.2.2 a ha b (List.mem_cons_of_mem _ hb)⟩
    ·simp only [List.mem_append,List.mem_cons] at hb ⊢
     exact hb.imp id .inr
   obtain ⟨ys,us,fq,L',g1,g2,g3,g4,g5,g6⟩:=oD hr rvs _ _ _ _ _ hd2 hok.2 hsz.2 h
   refine ⟨.st xs :: ys,.agg cs.toArray :: us,fps ++ fq,L',g1,?_,⟨cs,us,fps,fq,rfl,rfl,hrep,g3⟩,by rw [g4,List.append_assoc],g5,g6⟩
   rw [List.mapM_cons,Sem.run_bind]
   simp only [aBX,hv,asAddr]
   rw [Sem.run_bind,Sem.run_pure,Result.andThen_ok]
   simp only [Sem.run_bind,Sem.run_pure,Result.andThen_ok] at hld
   rw [hld,Result.andThen_ok,Sem.run_bind,g2]
   rfl
  ·exact h.elim
theorem lD (hr:Rel c s C a w):∀ (rvs:List ResultVar) (o1:List Ob) (C1:List OC) (ks L:List Nat) (K:List D->List Ob->Prop),Loose s.o C o1 C1 ks L->b6 c.P rvs=true->eE c.P s.e s.o rvs->eD s.e o1 rvs K ->
  ∃ xs us fp L' o2 C2 ks',K xs o2/\Loose s.o C o2 C2 ks' L'/\(rvs.mapM (aBX a.tmps)).run c.P w=.ok us w/\dI w (Ms c C) xs us fp/\L'=L ++ fp/\L'.Nodup/\(∀ b∈L',b∈dN C)
 | [],o1,C1,ks,L,K,hl,_,_,h=>⟨[],[],[],L,o1,C1,ks,h,hl,rfl,⟨rfl,rfl⟩,by simp,hl.lnodup,hl.lsub⟩
 | .tmp t :: rvs,o1,C1,ks,L,K,hl,hok,hsz,h=>by
  simp only [eD] at h
  obtain ⟨x,o2,C2,kr,cs,fp,hK,hv,hx,hl2⟩:=lX hr.wd hl (hr.env t) h
  simp only [b6,List.all_cons,Bool.true_and] at hok
  obtain ⟨xs,us,fq,L',oo,CC,kk,h1,hL,h2,h3,h4,h5,h6⟩:=lD hr rvs o2 C2 _ _ _ hl2 hok hsz hK
  refine ⟨x :: xs,a.tmps.getD t Go.undef :: us,fp ++ fq,L',oo,CC,kk,h1,hL,?_,⟨cs,us,fp,fq,by rw [hv],rfl,hx,h3⟩,by rw [h4,List.append_assoc],h5,h6⟩
  rw [List.mapM_cons,Sem.run_bind]
  simp only [aBX,Sem.run_pure,Result.andThen_ok]
  rw [Sem.run_bind,h2]
  rfl
 | .cell t ty :: rvs,o1,C1,ks,L,K,hl,hok,hsz,h=>by
  simp only [eD] at h
  split at h
  ·rename_i q hq
   obtain ⟨xs,hbox,h⟩:=h
   have hv:=hr.env t
   rw [hq] at hv
   obtain ⟨oc,hC,hv⟩:=hv
   obtain ⟨oc1,h3,_,_,h4⟩:=hl.same q oc hC
   rcases hl.obs q _ oc1 hbox h3 with ⟨h5,h6,h7⟩|⟨h5,_⟩
   case inr=>cases h5
   have:=h4 h7
   subst this
   obtain ⟨cs,fps,hrow,hrep,hfp⟩:=hr.wd.obs q _ oc1 h5 h6
   simp only [b6,List.all_cons,Bool.and_eq_true] at hok
   have hsz1:=hsz.1 q xs hq h5
   simp only [dE,Option.map_eq_some_iff] at hsz1
   obtain ⟨i,hi,hin⟩:=hsz1
   have hst:∃ fs,c.P.underlying ty=some (.struct fs):=by
    have h1:=hok.1
    split at h1
    ·rename_i fs hu; exact ⟨fs,hu⟩
    ·cases h1
   obtain ⟨fs,hu⟩:=hst
   have hcell:∀ j u,cs[j]?=some u->w.cell? ((⟨oc1.blk,0,none⟩:Addr).add j)=some u:=by
    have:=iO.of_row (M:=fun _=>False) hrow (fun h=>h)
    rcases this with h8|h8
    ·exact fun j u hu=>by rw [h8] at hu; simp at hu
    ·exact h8.2.2
   have hld:=lN (P:=c.P) (w:=w) (ad:=⟨oc1.blk,0,none⟩) (ds:=cs) hu hi (by rw [b7 (.st xs) _ _ hrep,hin]; rfl) hcell
   simp only [Instr.loadAt,Instr.sureAddr] at hld
   have hd:=hl.drop hbox h3
   have hd2:Loose s.o C (o1.set q .dead) (C1.set q { oc1 with fp:=[] }) (ks ++ [q]) (L ++ fps):=by
    rw [hfp] at hd
    refine ⟨hd.len,hd.clen,hd.obs,hd.same,fun b hb=>⟨(hd.fps b hb).1,fun hb'=>(hd.fps b hb).2 ?_⟩,hd.nodup,?_,fun b hb=>hd.lsub b ?_⟩
    ·simp only [List.mem_append,List.mem_cons] at hb' ⊢
     exact hb'.imp id .inr
    ·have:=hd.lnodup
     rw [List.nodup_append] at this ⊢
     exact ⟨this.1,(List.nodup_cons.1 this.2.1).2,fun a ha b hb=>this.2.2 a ha b (List.mem_cons_of_mem _ hb)⟩
    ·simp only [List.mem_append,List.mem_cons] at hb ⊢
     exact hb.imp id .inr
   obtain ⟨ys,us,fq,L',oo,CC,kk,g1,gL,g2,g3,g4,g5,g6⟩:=lD hr rvs _ _ _ _ _ hd2 hok.2 hsz.2 h
   refine ⟨.st xs :: ys,.agg cs.toArray :: us,fps ++ fq,L',oo,CC,kk,g1,gL,?_,⟨cs,us,fps,fq,rfl,rfl,hrep,g3⟩,by rw [g4,List.append_assoc],g5,g6⟩
   rw [List.mapM_cons,Sem.run_bind]
   simp only [aBX,hv,asAddr]
   rw [Sem.run_bind,Sem.run_pure,Result.andThen_ok]
   simp only [Sem.run_bind,Sem.run_pure,Result.andThen_ok] at hld
   rw [hld,Result.andThen_ok,Sem.run_bind,g2]
   rfl
  ·exact h.elim
theorem zY {P:Program} {fn:Func} {tmps:Array Value} {us:List Value} (h:(fn.results.toList.mapM (aBX tmps)).run P w=.ok us w):(results fn tmps).run P w=.ok (pS us) w:=by
 have he:results fn tmps=(do let vs<-fn.results.mapM (aBX tmps); pure (if h:vs.size=1 then vs[0] else .tuple vs)):=by
  unfold results aBX
  congr 1
 rw [he,Sem.run_bind,Array.mapM_eq_mapM_toList,Sem.run_map,h]
 simp only [Result.andThen_ok,Sem.run_pure]
 congr 1
 match us with
 | []=>rfl
 | [u]=>rfl
 | u :: v :: us=>simp [pS]
theorem nX {w':World} {M M':Nat->Prop} (hs:w.heap.size<=w'.heap.size) (hM:∀ b,b < w.heap.size->M' b->M b) (hk:∀ b,b < w.heap.size->w'.heap[b]?=w.heap[b]?):∀ (rs:List D) (us:List Value) (fp:List Nat),dI w M rs us fp->dI w' M' rs us fp
 | [],us,fp,h=>h
 | x :: rs,us,fp,h=>by
  obtain ⟨cs,us',f1,f2,rfl,rfl,h1,h2⟩:=h
  exact ⟨cs,us',f1,f2,rfl,rfl,cU hs hM _ _ _ (fun b hb _=>hk b hb) h1,nX hs hM hk rs us' f2 h2⟩
end
def aH2 (P:Program) (rvs:List ResultVar) (R:List D->Prop):Exit->St->Prop
 | .normal,s=>eE P s.e s.o rvs/\fO s.e s.o rvs R
 | .ret,s=>eE P s.e s.o rvs/\fO s.e s.o rvs R
 | _,_=>False
theorem aPr {lo:Nat} {P:PG} {f:FuncId} {fn:Func} {code:Code} {lv:List (Nat×List Nat)} {m:MC} {ds:List D} {R:List D->Prop} (hf:P.P.funcs[f]?=some fn) (hb:fn.body=some code)
  (hc:comp P.P (lo,fn.ntmps) lv code=some m) (hk:b6 P.P fn.results.toList=true) (hn:ds.length<=fn.ntmps)
  (h:∀ c:Ctx,c.G=P->c.nn=(lo,fn.ntmps)->vZ c m ⟨kX 0 ds,[]⟩ (aH2 P.P fn.results.toList R)):Fn P f ds R:=by
 intro M vs w hM hgl hvs
 have hlen:=mS _ _ _ hvs
 refine calls_of_wp hf hb ?_
 let c:Ctx:={ G:=P,n:=fn.ntmps,w0:=w,M0:=M,g0:=[],lo:=lo,fx:=fun t=>(vs.toArray ++ Array.replicate (fn.ntmps - vs.toArray.size) Go.undef).getD t Go.undef }
 have hMs:∀ b,Ms c [] b↔M b:=by intro b; simp [Ms,dN,c]
 have hrel:Rel c ⟨kX 0 ds,[]⟩ [] { tmps:=vs.toArray ++ Array.replicate (fn.ntmps - vs.toArray.size) Go.undef,defers:=[] } w:=by
  refine ⟨?_,rfl,fun t=>?_,?_,fun t _=>rfl⟩
  ·simp only [Array.size_append,List.size_toArray,Array.size_replicate,c,hlen]; omega
  ·simp only [s8,Nat.zero_le,if_true,Nat.sub_zero]
   cases hd:ds[t]? with
   | none=>trivial
   | some x =>
    have ht:=bC hd
    have hv:vs[t]?=some vs[t]:=List.getElem?_eq_getElem (by omega)
    obtain ⟨cs,h1,h2⟩:=rV _ _ hvs t x _ hd hv
    have e:(vs.toArray ++ Array.replicate (fn.ntmps - vs.toArray.size) Go.undef).getD t Go.undef=vs[t]:=by
     rw [Array.getD_eq_getD_getElem?,Array.getElem?_append_left (by simp; omega)]
     simp [hv]
    have hM2:Ms c []=M:=by funext b; exact propext (hMs b)
    refine ⟨cs,by rw [hM2]; exact h1,?_⟩
    exact e.trans h2
  ·exact ⟨rfl,fun r ob oc h=>by simp at h,fun q r v h=>by simp at h,by simp [dN],fun b hb=>by simp [dN] at hb,fun b hb=>by simp [dN] at hb,fun b hb=>by simp [dN] at hb,rfl,rfl,rfl,Nat.le_refl _,fun _ _ _=>rfl,fun b hb=>hM b hb,by
    have hM2:Ms c []=M:=by funext b; exact propext (hMs b)
    rw [hM2]; exact hgl⟩
 refine Code.wp_mono ?_ (h c rfl rfl lv code hc [] _ w hrel)
 rintro e a w' ⟨s,C,hq,hr⟩
 have fin:eE P.P s.e s.o fn.results.toList/\fO s.e s.o fn.results.toList R->a.defers=[]/\∃ v,(results fn a.tmps).run P.P w'=.ok v w' /\
   ∃ rs us fp,Ending.returned v=.returned (pS us)/\R rs/\dI w' (fun b=>M b\/b∈fp) rs us fp/\fp.Nodup/\(∀ b∈fp,w.heap.size<=b)/\kP w w':=by
  rintro ⟨hs,ht⟩
  obtain ⟨xs,us,fp,L',h1,h2,h3,hL,h5,h6⟩:=oD hr fn.results.toList s.o C [] [] R (Loose.refl hr.wd) hk hs ht
  rw [List.nil_append] at hL
  rw [hL] at h5 h6
  refine ⟨hr.defers,pS us,zY h2,xs,us,fp,rfl,h1,?_,h5,fun b hb=>?_,?_⟩
  ·refine nX (Nat.le_refl _) (fun b hb hm=>?_) (fun _ _=>rfl) _ _ _ h3
   rcases hm with hm|hm
   ·exact .inl hm
   ·exact .inr (h6 b hm)
  ·rcases hr.wd.mine b (h6 b hb) with h|h
   ·exact h
   ·cases h
  ·exact ⟨hr.wd.os,hr.wd.tape,hr.wd.output,hr.wd.size,fun b hb=>hr.wd.kept b hb (by simp [c])⟩
 cases e with
 | normal=>exact fin hq
 | ret=>exact fin hq
 | _=>exact hq.elim
def oF (L:List (Value×Nat×D)):List Ob:=L.map fun p=>.val (.sl false p.2.1 p.2.2)
def sH:Nat->List (Value×Nat×D)->List Ob
 | _,[]=>[]
 | n,p :: L=>.tag n p.1 :: sH (n + 1) L
def aKw (L:List (Value×Nat×D)):List Ob:=oF L ++ sH 0 L
def tD (L:List (Value×Nat×D)):List OC:=(L.map fun p=>{ v:=p.1,blk:=0,fp:=[] }) ++ (L.map fun p=>{ v:=p.1,blk:=0,fp:=[] })
theorem aCU:∀ (n:Nat) (L:List (Value×Nat×D)),(sH n L).length=L.length
 | _,[]=>rfl
 | n,p :: L=>by simp [sH,aCU (n + 1) L]
theorem zG (L:List (Value×Nat×D)):∀ oc∈tD L,oc.fp=[]:=by
 intro oc h
 rcases List.mem_append.1 h with h|h<;>(obtain ⟨p,_,rfl⟩:=List.mem_map.1 h; rfl)
theorem aII (L:List (Value×Nat×D)):dN (tD L)=[]:=by
 refine List.eq_nil_iff_forall_not_mem.2 fun b hb=>?_
 obtain ⟨j,od,hj,hb'⟩:=bP.1 hb
 rw [zG L od (List.mem_of_getElem? hj)] at hb'
 cases hb'
theorem uK:∀ (L:List (Value×Nat×D)) (n i:Nat) (ob:Ob),(sH n L)[i]?=some ob->∃ p,L[i]?=some p/\ob=.tag (n + i) p.1
 | [],n,i,ob,h=>by simp [sH] at h
 | p :: L,n,0,ob,h=>by
  simp only [sH,List.getElem?_cons_zero,Option.some.injEq] at h
  exact ⟨p,rfl,h.symm⟩
 | p :: L,n,i + 1,ob,h=>by
  simp only [sH,List.getElem?_cons_succ] at h
  obtain ⟨q,h1,h2⟩:=uK L (n + 1) i ob h
  exact ⟨q,by simpa using h1,by rw [h2]; congr 1; omega⟩
theorem aKo {w:World} {M:Nat->Prop} (L:List (Value×Nat×D)) (hL:∀ p∈L,(D.sl false p.2.1 p.2.2).rep w M [p.1] []) (r:Nat) (ob:Ob) (oc:OC) (h1:(aKw L)[r]?=some ob) (h2:(tD L)[r]?=some oc):e8 w M ob oc:=by
 have hf:=zG L oc (List.mem_of_getElem? h2)
 by_cases hr:r < L.length
 ·rw [aKw,List.getElem?_append_left (by simpa [oF] using hr)] at h1
  rw [tD,List.getElem?_append_left (by simpa using hr)] at h2
  simp only [oF,List.getElem?_map,Option.map_eq_some_iff] at h1 h2
  obtain ⟨p,hp,rfl⟩:=h1
  obtain ⟨p',hp',rfl⟩:=h2
  rw [hp] at hp'
  injection hp' with hp'
  subst hp'
  exact ⟨[p.1],hL p (List.mem_of_getElem? hp),rfl⟩
 ·rw [aKw,List.getElem?_append_right (by simp [oF]; omega)] at h1
  obtain ⟨p,_,rfl⟩:=uK _ _ _ _ h1
  exact hf
def w6 (P:Program) (rvs:List ResultVar) (bx:Bool) (R:D->List D->Prop):Exit->St->Prop
 | .normal,s=>eE P s.e s.o rvs/\look s.e 0=fI bx 0/\eD s.e s.o rvs fun rs o2=>∃ x',o2[0]?=some (fN bx x')/\R x' rs
 | .ret,s=>eE P s.e s.o rvs/\look s.e 0=fI bx 0/\eD s.e s.o rvs fun rs o2=>∃ x',o2[0]?=some (fN bx x')/\R x' rs
 | _,_=>False
theorem aAy (q:SV) (ds:List D) (t:Nat):look ((0,q) :: kX 1 ds) t=if t=0 then q else (match ds[t - 1]? with|some x=>.d x|none=>.any):=by
 simp only [look]
 by_cases h:0=t
 ·subst h; simp
 ·rw [if_neg h,if_neg (fun e=>h e.symm),s8,if_pos (by omega)]
theorem aMI {lo:Nat} {P:PG} {f:FuncId} {fn:Func} {code:Code} {lv:List (Nat×List Nat)} {m:MC} {bx:Bool} {x:D} {ds:List D} {R:D->List D->Prop} (hf:P.P.funcs[f]?=some fn) (hb:fn.body=some code)
  (hc:comp P.P (lo,fn.ntmps) lv code=some m) (hlo:0 < lo) (hk:b6 P.P fn.results.toList=true) (hn:ds.length + 1<=fn.ntmps)
  (h:∀ c:Ctx,c.G=P->c.nn=(lo,fn.ntmps)->vZ c m ⟨(0,fI bx 0) :: kX 1 ds,[fN bx x]⟩ (w6 P.P fn.results.toList bx R)):wP P f bx x ds R:=by
 intro M oc vs w hM hob hnd hlt hgl hvs
 have hlen:=mS _ _ _ hvs
 refine calls_of_wp hf hb ?_
 let T:Array Value:=(vF bx oc :: vs).toArray ++ Array.replicate (fn.ntmps - (vF bx oc :: vs).toArray.size) Go.undef
 let c:Ctx:={ G:=P,n:=fn.ntmps,w0:=w,M0:=M,g0:=oc.fp,lo:=lo,fx:=fun t=>T.getD t Go.undef }
 have hF:dN [oc]=oc.fp:=by simp [dN]
 have hMs:(fun b=>M b\/b∈oc.fp)=Ms c [oc]:=by funext b; simp [Ms,hF,c]
 have hT0:T.getD 0 Go.undef=vF bx oc:=by
  show ((vF bx oc :: vs).toArray ++ Array.replicate (fn.ntmps - (vF bx oc :: vs).toArray.size) Go.undef).getD 0 Go.undef=vF bx oc
  rw [Array.getD_eq_getD_getElem?,Array.getElem?_append_left (by simp)]
  simp
 have hrel:Rel c ⟨(0,fI bx 0) :: kX 1 ds,[fN bx x]⟩ [oc] { tmps:=T,defers:=[] } w:=by
  refine ⟨?_,rfl,fun t=>?_,?_,fun t _=>rfl⟩
  ·simp only [T,Array.size_append,List.size_toArray,Array.size_replicate,c,hlen,List.length_cons]; omega
  ·rw [aAy]
   by_cases ht:t=0
   ·subst ht
    rw [if_pos rfl]
    show cB w (Ms c [oc]) [oc] (fI bx 0) (T.getD 0 Go.undef)
    rw [hT0]
    cases bx with
    | false=>exact ⟨oc,rfl,rfl⟩
    | true=>exact ⟨oc,rfl,rfl⟩
   ·rw [if_neg ht]
    cases hd:ds[t - 1]? with
    | none=>trivial
    | some y =>
     have ht1:=bC hd
     have hv:vs[t - 1]?=some vs[t - 1]:=List.getElem?_eq_getElem (by omega)
     obtain ⟨cs,h1,h2⟩:=rV _ _ hvs (t - 1) y _ hd hv
     have e:T.getD t Go.undef=vs[t - 1]:=by
      show ((vF bx oc :: vs).toArray ++ Array.replicate (fn.ntmps - (vF bx oc :: vs).toArray.size) Go.undef).getD t Go.undef=vs[t - 1]
      rw [Array.getD_eq_getD_getElem?,Array.getElem?_append_left (by simp; omega)]
      obtain ⟨u,rfl⟩:∃ u,t=u + 1:=⟨t - 1,by omega⟩
      rw [List.getElem?_toArray,List.getElem?_cons_succ]
      simp only [Nat.add_sub_cancel] at hv ⊢
      rw [hv]; rfl
     refine ⟨cs,by rw [<- hMs]; exact h1,?_⟩
     exact e.trans h2
  ·refine ⟨rfl,fun r ob od hr ho=>?_,fun q r v hq=>?_,by rw [hF]; exact hnd,fun b hb=>?_,fun b hb=>?_,fun b hb=>?_,rfl,rfl,rfl,Nat.le_refl _,fun _ _ _=>rfl,fun b hb=>hM b hb,by rw [<- hMs]; exact hgl⟩
   ·cases r with
    | zero =>
     simp only [List.getElem?_cons_zero,Option.some.injEq] at hr ho
     subst hr ho
     rw [<- hMs]; exact hob
    | succ r=>simp at hr
   ·cases q with
    | zero=>cases bx<;>simp [fN] at hq
    | succ q=>simp at hq
   ·rw [hF] at hb; exact (hlt b hb).1
   ·rw [hF] at hb; exact (hlt b hb).2
   ·rw [hF] at hb; exact .inr hb
 refine Code.wp_mono ?_ (h c rfl rfl lv code hc [oc] _ w hrel)
 rintro e a w' ⟨s,C,hq,hr⟩
 have fin:(eE P.P s.e s.o fn.results.toList/\look s.e 0=fI bx 0/\eD s.e s.o fn.results.toList fun rs o2=>∃ x',o2[0]?=some (fN bx x')/\R x' rs)->a.defers=[]/\∃ v,(results fn a.tmps).run P.P w'=.ok v w' /\
   ∃ x' rs us fo fp,Ending.returned v=.returned (pS us)/\R x' rs/\e8 w' (fun b=>M b\/b∈fo ++ fp) (fN bx x') { oc with fp:=fo }/\dI w' (fun b=>M b\/b∈fo ++ fp) rs us fp /\
   (fo ++ fp).Nodup/\(∀ b∈fo ++ fp,(b∈oc.fp\/w.heap.size<=b)/\b < w'.heap.size)/\Went w w' (fun b=>b∈oc.fp):=by
  rintro ⟨hs,h0,ht⟩
  obtain ⟨xs,us,fp,L',o2,C2,ks',⟨x',hx',hR⟩,hL,h2,h3,hLe,h5,h6⟩:=lD hr fn.results.toList s.o C [] [] _ (Loose.refl hr.wd) hk hs ht
  rw [List.nil_append] at hLe
  subst hLe
  have hx'l:=bC hx'
  obtain ⟨oc2,hC2⟩:∃ oc2,C2[0]?=some oc2:=⟨C2[0]'(by rw [<- hL.len]; exact hx'l),List.getElem?_eq_getElem _⟩
  have hz:(s.o[0]?=some (fN bx x')/\C[0]?=some oc2/\0 ∉ ks'):=by
   rcases hL.obs 0 _ oc2 hx' hC2 with h7|⟨h7,_⟩
   ·exact h7
   ·cases bx<;>cases h7
  obtain ⟨hz1,hz2,_⟩:=hz
  have hobj:=hr.wd.obs 0 _ oc2 hz1 hz2
  have hfo:∀ b∈oc2.fp,b∈dN C2:=fun b hb=>bP.2 ⟨0,oc2,hC2,hb⟩
  have hsame:vF bx oc2=vF bx oc:=by
   have hv:=hr.env 0
   rw [h0] at hv
   have hx:=hr.fix 0 hlo
   have e1:vF bx oc2=a.tmps.getD 0 Go.undef:=by
    cases bx with
    | false =>
     obtain ⟨o3,k1,k2⟩:=hv
     rw [hz2] at k1; injection k1 with k1; subst k1; exact k2.symm
    | true =>
     obtain ⟨o3,k1,k2⟩:=hv
     rw [hz2] at k1; injection k1 with k1; subst k1; exact k2.symm
   rw [e1,hx]; exact hT0
  have hobj':e8 w' (Ms c C) (fN bx x') { oc with fp:=oc2.fp }:=by
   cases bx with
   | false =>
    obtain ⟨cs,k1,k2⟩:=hobj
    exact ⟨cs,k1,(show oc2.v=oc.v from hsame).symm.trans k2⟩
   | true =>
    obtain ⟨cs,fps,k1,k2,k3⟩:=hobj
    have hblk:oc2.blk=oc.blk:=by
     have:Value.pointer (some ⟨oc2.blk,0,none⟩)=Value.pointer (some ⟨oc.blk,0,none⟩):=hsame
     injection this with this; injection this with this; injection this with this
    exact ⟨cs,fps,by rw [<- hblk]; exact k1,k2,by rw [k3,hblk]⟩
  have hsubM:∀ b,(M b\/b∈oc2.fp ++ L')->Ms c C b:=by
   rintro b (hb|hb)
   ·exact .inl hb
   ·rcases List.mem_append.1 hb with hb|hb
    ·exact .inr (hL.fps b (hfo b hb)).1
    ·exact .inr (h6 b hb)
  refine ⟨hr.defers,pS us,zY h2,x',xs,us,oc2.fp,L',rfl,hR,hobj'.weak hsubM,?_,?_,fun b hb=>?_,?_⟩
  ·exact nX (Nat.le_refl _) (fun b _ hm=>hsubM b hm) (fun _ _=>rfl) _ _ _ h3
  ·refine List.nodup_append.2 ⟨(cD.1 hL.nodup).1 0 oc2 hC2,h5,fun a ha b hb hab=>?_⟩
   subst hab
   exact (hL.fps a (hfo a ha)).2 hb
  ·have hbC:b∈dN C:=by
    rcases List.mem_append.1 hb with hb|hb
    ·exact (hL.fps b (hfo b hb)).1
    ·exact h6 b hb
   exact ⟨(hr.wd.mine b hbC).symm,hr.wd.lt b hbC⟩
  ·exact ⟨hr.wd.os,hr.wd.tape,hr.wd.output,hr.wd.size,fun b hb hn=>hr.wd.kept b hb hn⟩
 cases e with
 | normal=>exact fin hq
 | ret=>exact fin hq
 | _=>exact hq.elim
def k0 (L:List (Value×Nat×D)):List Ob:=oF L ++ sH 1 L
theorem aGN (L:List (Value×Nat×D)):(k0 L).length=(tD L).length:=by simp [k0,oF,tD,aCU]
theorem aIA {w:World} {M:Nat->Prop} (L:List (Value×Nat×D)) (hL:∀ p∈L,(D.sl false p.2.1 p.2.2).rep w M [p.1] []) (r:Nat) (ob:Ob) (oc:OC) (h1:(k0 L)[r]?=some ob) (h2:(tD L)[r]?=some oc):e8 w M ob oc:=by
 by_cases hr:r < L.length
 ·refine aKo L hL r ob oc ?_ h2
  rw [k0,List.getElem?_append_left (by simpa [oF] using hr)] at h1
  rw [aKw,List.getElem?_append_left (by simpa [oF] using hr)]; exact h1
 ·rw [k0,List.getElem?_append_right (by simp [oF]; omega)] at h1
  obtain ⟨p,_,rfl⟩:=uK _ _ _ _ h1
  exact zG L oc (List.mem_of_getElem? h2)
theorem aGR (L:List (Value×Nat×D)) (o0:OC) (q r:Nat) (v:Value) (h:(k0 L)[q]?=some (.tag r v)):∃ oc,(o0 :: tD L)[r]?=some oc/\oc.v=v:=by
 by_cases hr:q < L.length
 ·rw [k0,List.getElem?_append_left (by simpa [oF] using hr)] at h
  simp only [oF,List.getElem?_map,Option.map_eq_some_iff] at h
  obtain ⟨p,_,hp⟩:=h
  cases hp
 ·rw [k0,List.getElem?_append_right (by simp [oF]; omega)] at h
  obtain ⟨p,hp,he⟩:=uK _ _ _ _ h
  injection he with h1 h2
  subst h1 h2
  have hl:=bC hp
  have e:1 + (q - (oF L).length)=(q - (oF L).length) + 1:=by omega
  rw [e,List.getElem?_cons_succ,tD,List.getElem?_append_left (by simpa using hl),List.getElem?_map,hp]
  exact ⟨_,rfl,rfl⟩
theorem aK0 {lo:Nat} {P:PG} {f:FuncId} {fn:Func} {code:Code} {lv:List (Nat×List Nat)} {m:MC} {x:D} {L:List (Value×Nat×D)} {ds:List D} {R:D->List D->Prop} (hf:P.P.funcs[f]?=some fn) (hb:fn.body=some code)
  (hc:comp P.P (lo,fn.ntmps) lv code=some m) (hlo:0 < lo) (hk:b6 P.P fn.results.toList=true) (hn:ds.length + 1<=fn.ntmps)
  (h:∀ c:Ctx,c.G=P->c.nn=(lo,fn.ntmps)->vZ c m ⟨(0,fI true 0) :: kX 1 ds,.box x :: k0 L⟩ (w6 P.P fn.results.toList true R)):yW P f x L ds R:=by
 intro M oc vs w hM hob hnd hlt hgl hL hvs
 have hlen:=mS _ _ _ hvs
 refine calls_of_wp hf hb ?_
 let T:Array Value:=(vF true oc :: vs).toArray ++ Array.replicate (fn.ntmps - (vF true oc :: vs).toArray.size) Go.undef
 let c:Ctx:={ G:=P,n:=fn.ntmps,w0:=w,M0:=M,g0:=oc.fp,lo:=lo,fx:=fun t=>T.getD t Go.undef }
 have hF:dN (oc :: tD L)=oc.fp:=by
  have:=aII L
  simp only [dN] at this
  simp [dN,this]
 have hMs:(fun b=>M b\/b∈oc.fp)=Ms c (oc :: tD L):=by funext b; simp [Ms,hF,c]
 have hT0:T.getD 0 Go.undef=vF true oc:=by
  show ((vF true oc :: vs).toArray ++ Array.replicate (fn.ntmps - (vF true oc :: vs).toArray.size) Go.undef).getD 0 Go.undef=vF true oc
  rw [Array.getD_eq_getD_getElem?,Array.getElem?_append_left (by simp)]
  simp
 have hrel:Rel c ⟨(0,fI true 0) :: kX 1 ds,.box x :: k0 L⟩ (oc :: tD L) { tmps:=T,defers:=[] } w:=by
  refine ⟨?_,rfl,fun t=>?_,?_,fun t _=>rfl⟩
  ·simp only [T,Array.size_append,List.size_toArray,Array.size_replicate,c,hlen,List.length_cons]; omega
  ·rw [aAy]
   by_cases ht:t=0
   ·subst ht
    rw [if_pos rfl]
    show cB w (Ms c (oc :: tD L)) (oc :: tD L) (fI true 0) (T.getD 0 Go.undef)
    rw [hT0]
    exact ⟨oc,rfl,rfl⟩
   ·rw [if_neg ht]
    cases hd:ds[t - 1]? with
    | none=>trivial
    | some y =>
     have ht1:=bC hd
     have hv:vs[t - 1]?=some vs[t - 1]:=List.getElem?_eq_getElem (by omega)
     obtain ⟨cs,h1,h2⟩:=rV _ _ hvs (t - 1) y _ hd hv
     have e:T.getD t Go.undef=vs[t - 1]:=by
      show ((vF true oc :: vs).toArray ++ Array.replicate (fn.ntmps - (vF true oc :: vs).toArray.size) Go.undef).getD t Go.undef=vs[t - 1]
      rw [Array.getD_eq_getD_getElem?,Array.getElem?_append_left (by simp; omega)]
      obtain ⟨u,rfl⟩:∃ u,t=u + 1:=⟨t - 1,by omega⟩
      rw [List.getElem?_toArray,List.getElem?_cons_succ]
      simp only [Nat.add_sub_cancel] at hv ⊢
      rw [hv]; rfl
     refine ⟨cs,by rw [<- hMs]; exact h1,?_⟩
     exact e.trans h2
  ·refine ⟨by simp [aGN],fun r ob od hr ho=>?_,fun q r v hq=>?_,by rw [hF]; exact hnd,fun b hb=>?_,fun b hb=>?_,fun b hb=>?_,rfl,rfl,rfl,Nat.le_refl _,fun _ _ _=>rfl,fun b hb=>hM b hb,by rw [<- hMs]; exact hgl⟩
   ·cases r with
    | zero =>
     simp only [List.getElem?_cons_zero,Option.some.injEq] at hr ho
     subst hr ho
     rw [<- hMs]; exact hob
    | succ r =>
     simp only [List.getElem?_cons_succ] at hr ho
     rw [<- hMs]; exact aIA L hL r ob od hr ho
   ·cases q with
    | zero=>simp at hq
    | succ q =>
     simp only [List.getElem?_cons_succ] at hq
     exact aGR L oc q r v hq
   ·rw [hF] at hb; exact (hlt b hb).1
   ·rw [hF] at hb; exact (hlt b hb).2
   ·rw [hF] at hb; exact .inr hb
 refine Code.wp_mono ?_ (h c rfl rfl lv code hc (oc :: tD L) _ w hrel)
 rintro e a w' ⟨s,C,hq,hr⟩
 have fin:(eE P.P s.e s.o fn.results.toList/\look s.e 0=fI true 0/\eD s.e s.o fn.results.toList fun rs o2=>∃ x',o2[0]?=some (fN true x')/\R x' rs)->a.defers=[]/\∃ v,(results fn a.tmps).run P.P w'=.ok v w' /\
   ∃ x' rs us fo fp,Ending.returned v=.returned (pS us)/\R x' rs/\e8 w' (fun b=>M b\/b∈fo ++ fp) (fN true x') { oc with fp:=fo }/\dI w' (fun b=>M b\/b∈fo ++ fp) rs us fp /\
   (fo ++ fp).Nodup/\(∀ b∈fo ++ fp,(b∈oc.fp\/w.heap.size<=b)/\b < w'.heap.size)/\Went w w' (fun b=>b∈oc.fp):=by
  rintro ⟨hs,h0,ht⟩
  obtain ⟨xs,us,fp,L',o2,C2,ks',⟨x',hx',hR⟩,hL,h2,h3,hLe,h5,h6⟩:=lD hr fn.results.toList s.o C [] [] _ (Loose.refl hr.wd) hk hs ht
  rw [List.nil_append] at hLe
  subst hLe
  have hx'l:=bC hx'
  obtain ⟨oc2,hC2⟩:∃ oc2,C2[0]?=some oc2:=⟨C2[0]'(by rw [<- hL.len]; exact hx'l),List.getElem?_eq_getElem _⟩
  have hz:(s.o[0]?=some (fN true x')/\C[0]?=some oc2/\0 ∉ ks'):=by
   rcases hL.obs 0 _ oc2 hx' hC2 with h7|⟨h7,_⟩
   ·exact h7
   ·cases h7
  obtain ⟨hz1,hz2,_⟩:=hz
  have hobj:=hr.wd.obs 0 _ oc2 hz1 hz2
  have hfo:∀ b∈oc2.fp,b∈dN C2:=fun b hb=>bP.2 ⟨0,oc2,hC2,hb⟩
  have hsame:vF true oc2=vF true oc:=by
   have hv:=hr.env 0
   rw [h0] at hv
   have hx:=hr.fix 0 hlo
   have e1:vF true oc2=a.tmps.getD 0 Go.undef:=by
    obtain ⟨o3,k1,k2⟩:=hv
    rw [hz2] at k1; injection k1 with k1; subst k1; exact k2.symm
   rw [e1,hx]; exact hT0
  have hobj':e8 w' (Ms c C) (fN true x') { oc with fp:=oc2.fp }:=by
   obtain ⟨cs,fps,k1,k2,k3⟩:=hobj
   have hblk:oc2.blk=oc.blk:=by
    have:Value.pointer (some ⟨oc2.blk,0,none⟩)=Value.pointer (some ⟨oc.blk,0,none⟩):=hsame
    injection this with this; injection this with this; injection this with this
   exact ⟨cs,fps,by rw [<- hblk]; exact k1,k2,by rw [k3,hblk]⟩
  have hsubM:∀ b,(M b\/b∈oc2.fp ++ L')->Ms c C b:=by
   rintro b (hb|hb)
   ·exact .inl hb
   ·rcases List.mem_append.1 hb with hb|hb
    ·exact .inr (hL.fps b (hfo b hb)).1
    ·exact .inr (h6 b hb)
  refine ⟨hr.defers,pS us,zY h2,x',xs,us,oc2.fp,L',rfl,hR,hobj'.weak hsubM,?_,?_,fun b hb=>?_,?_⟩
  ·exact nX (Nat.le_refl _) (fun b _ hm=>hsubM b hm) (fun _ _=>rfl) _ _ _ h3
  ·refine List.nodup_append.2 ⟨(cD.1 hL.nodup).1 0 oc2 hC2,h5,fun a ha b hb hab=>?_⟩
   subst hab
   exact (hL.fps a (hfo a ha)).2 hb
  ·have hbC:b∈dN C:=by
    rcases List.mem_append.1 hb with hb|hb
    ·exact (hL.fps b (hfo b hb)).1
    ·exact h6 b hb
   exact ⟨(hr.wd.mine b hbC).symm,hr.wd.lt b hbC⟩
  ·exact ⟨hr.wd.os,hr.wd.tape,hr.wd.output,hr.wd.size,fun b hb hn=>hr.wd.kept b hb hn⟩
 cases e with
 | normal=>exact fin hq
 | ret=>exact fin hq
 | _=>exact hq.elim
end Go.Pe
set_option linter.all false
namespace Go.Pe
open Go Go.RowKit
def mI (P:PG) (sv:SV) (want:Bool) (dst:Option Nat) (eff:Bool) (mo:MO) (os:List MOp) (s:St) (K:St->Prop):Prop :=
 match sv with
 | .d (.bool b)=>(b=want->mB P s eff mo fun sv s'=>dS P os ⟨kE s'.e dst sv,s'.o⟩ K)/\(b=!want->dS P os ⟨kE s.e dst .undef,s.o⟩ K)
 | .undef=>dS P os ⟨kE s.e dst .undef,s.o⟩ K
 | _=>False
section
variable {P : PG} {s : St} {K : St -> Prop} {os : List MOp} {dst : Option Nat} {eff : Bool} {mo : MO} {t : Nat} {want : Bool}
theorem aGD:dS P [] s K=K s:=propext Iff.rfl
theorem aI3:dS P (⟨dst,none,eff,mo⟩ :: os) s K=mB P s eff mo fun sv s'=>dS P os ⟨kE s'.e dst sv,s'.o⟩ K:=propext Iff.rfl
theorem aKx:dS P (⟨dst,some (t,want),eff,mo⟩ :: os) s K=mI P (look s.e t) want dst eff mo os s K:=by
 simp only [dS,mI]
 all_goals
  generalize look s.e t=q
  match q with
  | .d (.bool b)=>rfl
  | .d (.int _ _)=>rfl
  | .d (.str _)=>rfl
  | .d (.err _)=>rfl
  | .d (.sl _ _ _)=>rfl
  | .d (.st _)=>rfl
  | .d (.ptr _)=>rfl
  | .d (.clo _ _)=>rfl
  | .d (.lnk _ _)=>rfl
  | .d .nil=>rfl
  | .d (.cons _ _)=>rfl
  | .undef=>rfl
  | .any=>rfl
  | .nil=>rfl
  | .own _=>rfl
  | .ptr _ _ _=>rfl
  | .el _ _ _ _ _=>rfl
  | .vw _=>rfl
  | .win _ _ _=>rfl
  | .tup _=>rfl
theorem aEm:mI P (.d (.bool true)) true dst eff mo os s K=mB P s eff mo fun sv s'=>dS P os ⟨kE s'.e dst sv,s'.o⟩ K:=by
 simp [mI]
theorem aDm:mI P (.d (.bool false)) false dst eff mo os s K=mB P s eff mo fun sv s'=>dS P os ⟨kE s'.e dst sv,s'.o⟩ K:=by
 simp [mI]
theorem aHs:mI P (.d (.bool true)) false dst eff mo os s K=dS P os ⟨kE s.e dst .undef,s.o⟩ K:=by
 simp [mI]
theorem aHj:mI P (.d (.bool false)) true dst eff mo os s K=dS P os ⟨kE s.e dst .undef,s.o⟩ K:=by
 simp [mI]
theorem aHO:mI P .undef want dst eff mo os s K=dS P os ⟨kE s.e dst .undef,s.o⟩ K:=propext Iff.rfl
theorem aO {b:Bool} (h1:b=true->mI P (.d (.bool true)) want dst eff mo os s K) (h2:b=false->mI P (.d (.bool false)) want dst eff mo os s K):mI P (.d (.bool b)) want dst eff mo os s K:=by
 cases b
 ·exact h2 rfl
 ·exact h1 rfl
@[congr] theorem aMj {s' : St} (h : s = s') : dS P os s K = dS P os s' K := by rw [h]
@[congr] theorem aMo {s' : St} {sv sv' : SV} (h : sv = sv') (h2 : s = s') : mI P sv want dst eff mo os s K = mI P sv' want dst eff mo os s' K := by rw [h, h2]
end
def aI6:List (Nat×Nat)->St->St
 | [],s=>s
 |(t,es) :: r,s=>aI6 r ⟨(t,.own s.o.length) :: s.e,s.o ++ [.val (.sl true es .nil)]⟩
def aDe:List (Nat×Nat)->St->Prop
 | [],_=>True
 |(t,es) :: r,s=>look s.e t=.nil/\aDe r ⟨(t,.own s.o.length) :: s.e,s.o ++ [.val (.sl true es .nil)]⟩
set_option linter.unusedVariables false in
theorem aDp {c:Ctx} {m:MC} {Q:Exit->St->Prop}:∀ (ts:List (Nat×Nat)) (s:St),aDe ts s->vZ c m (aI6 ts s) Q->vZ c m s Q
 | [],s,_,h=>h
 |(t,es) :: r,s,hk,h=>aK4 t es hk.1 (aDp r _ hk.2 h)
def dA (P:PG):MC->St->(Exit->St->Prop)->Prop
 | .skip,s,Q=>Q .normal s
 | .reg _ lv ms,s,Q=>dS P ms s fun s'=>Q .normal ⟨kS lv s'.e,s'.o⟩
 | .seq x y,s,Q=>dA P x s (nY (fun s'=>dA P y s' Q) Q)
 | .cond p x y,s,Q=>match lZ s.e p with
  | .d (.bool b)=>(b=true->dA P x s Q)/\(b=false->dA P y s Q)
  | _=>False
 | .block id x,s,Q=>dA P x s (inB id Q)
 | .loop b,s,Q=>∃ (ts:List (Nat×Nat)) (α:Type) (S:α->St) (inv:α->Prop) (μ:α->Nat) (x0:α),aDe ts s/\eN (aI6 ts s) (S x0)/\inv x0 /\
   ∀ x,inv x->dA P b (S x) (nY (fun s'=>∃ y,eN s' (S y)/\inv y/\μ y < μ x) Q)
 | .exit id,s,Q=>Q (.exit id) s
 | .ret,s,Q=>Q .ret s
 | .hole,_,_=>False
 | .any un lv p,s,Q=>∃ J:St->Prop,(d4 P un p [] s fun s'=>J ⟨kS lv s'.e,s'.o⟩)/\∀ s',J s'->∃ s1,eN s' s1/\Q .normal s1
 | .gh m,s,Q=>∃ (α:Type) (S:α->St),iT s S/\∀ x,dA P m (S x) Q
def uG (P:PG) (sv:SV) (x y:MC) (s:St) (Q:Exit->St->Prop):Prop :=
 match sv with
 | .d (.bool b)=>(b=true->dA P x s Q)/\(b=false->dA P y s Q)
 | _=>False
section
variable {P : PG} {s : St} {Q : Exit -> St -> Prop} {x y : MC}
theorem aEu:dA P .skip s Q=Q .normal s:=propext Iff.rfl
theorem aGf:dA P .ret s Q=Q .ret s:=propext Iff.rfl
theorem aEl {i:Nat}:dA P (.exit i) s Q=Q (.exit i) s:=propext Iff.rfl
theorem aGL:dA P (.seq x y) s Q=dA P x s (nY (fun s'=>dA P y s' Q) Q):=propext Iff.rfl
theorem aCB {i:Nat}:dA P (.block i x) s Q=dA P x s (inB i Q):=propext Iff.rfl
theorem aGn {d:Bool} {lv:List Nat} {ms:List MOp}:dA P (.reg d lv ms) s Q=dS P ms s fun s'=>Q .normal ⟨kS lv s'.e,s'.o⟩:=propext Iff.rfl
theorem aEJ {p:Opd}:dA P (.cond p x y) s Q=uG P (lZ s.e p) x y s Q:=by
 simp only [dA,uG]
theorem aEi:uG P (.d (.bool true)) x y s Q=dA P x s Q:=by simp [uG]
theorem aDc:uG P (.d (.bool false)) x y s Q=dA P y s Q:=by simp [uG]
theorem aQ {b:Bool} (h1:b=true->dA P x s Q) (h2:b=false->dA P y s Q):uG P (.d (.bool b)) x y s Q:=⟨h1,h2⟩
@[congr] theorem aMb {s' : St} (h : s = s') : dA P x s Q = dA P x s' Q := by rw [h]
@[congr] theorem aMx {s' : St} {sv sv' : SV} (h : sv = sv') (h2 : s = s') : uG P sv x y s Q = uG P sv' x y s' Q := by rw [h, h2]
theorem aKv {k:St->Prop}:nY k Q .normal s=k s:=propext Iff.rfl
theorem aKh {k:St->Prop}:nY k Q .ret s=Q .ret s:=propext Iff.rfl
theorem aK9 {k:St->Prop} {i:Nat}:nY k Q (.exit i) s=Q (.exit i) s:=propext Iff.rfl
theorem aOb {i:Nat}:inB i Q .normal s=Q .normal s:=propext Iff.rfl
theorem aOM {i:Nat}:inB i Q .ret s=Q .ret s:=propext Iff.rfl
theorem aPD {i j:Nat}:inB i Q (.exit j) s=if j=i then Q .normal s else Q (.exit j) s:=propext Iff.rfl
theorem dZ {α:Type} (S:α->St) (inv:α->Prop) (μ:α->Nat) (x0:α) (h0:eN s (S x0)) (hi:inv x0)
  (body:∀ z,inv z->dA P x (S z) (nY (fun s'=>∃ y,eN s' (S y)/\inv y/\μ y < μ z) Q)):dA P (.loop x) s Q:=⟨[],α,S,inv,μ,x0,trivial,h0,hi,body⟩
theorem aFg {α:Type} (ts:List (Nat×Nat)) (S:α->St) (inv:α->Prop) (μ:α->Nat) (x0:α) (hn:aDe ts s) (h0:eN (aI6 ts s) (S x0)) (hi:inv x0)
  (body:∀ z,inv z->dA P x (S z) (nY (fun s'=>∃ y,eN s' (S y)/\inv y/\μ y < μ z) Q)):dA P (.loop x) s Q:=⟨ts,α,S,inv,μ,x0,hn,h0,hi,body⟩
end
theorem aHT {c:Ctx} {m:MC} {s:St} {Q Q':Exit->St->Prop} (h:vZ c m s Q) (hq:∀ e s',Q e s'->Q' e s'):vZ c m s Q':=by
 intro lv code hc C a w hr
 exact Code.wp_mono (fun e a' w' ⟨s',C',h1,h2⟩=>⟨s',C',hq e s' h1,h2⟩) (h lv code hc C a w hr)
theorem aIP {c:Ctx} {draw:Bool} {lv:List Nat} {ms:List MOp} {s:St} {Q:Exit->St->Prop} (hx:dS c.G ms s (fun s'=>Q .normal ⟨kS lv s'.e,s'.o⟩)):vZ c (.reg draw lv ms) s Q:=by
 intro lv' code hc C a w hr
 obtain ⟨id,ops,rfl,h1,h2⟩:=aDk hc
 cases draw with
 | true =>
  obtain ⟨h3,h4⟩:=h2 rfl
  refine vL (C:=C) h3 h4 (fun j o d hj=>rA _ _ h1 o (List.mem_of_getElem? (by rw [Array.getElem?_toList]; exact hj)) d) hr.relE (nV _ _ s _ h1 hx) ?_
  rintro E a' w' hE ⟨e',hK,rfl⟩
  exact ⟨_,C,hK,Rel.weak (s:=⟨e',s.o⟩) ⟨hE.tmps,hE.defers,hE.env,hE.wd,hE.fix⟩ (jI lv e')⟩
 | false =>
  refine wp_region_list (jJ (K:=fun s'=>Q .normal ⟨kS lv s'.e,s'.o⟩) ?_ _ _ s C a w h1 hr hx)
  intro s' C' a' w' hr' hK
  exact ⟨_,C',hK,hr'.weak (jI lv s'.e)⟩
theorem fR {c:Ctx}:∀ (m:MC) (s:St) (Q:Exit->St->Prop),dA c.G m s Q->vZ c (gX m) s Q
 | .gh m,s,Q,h=>by
   obtain ⟨α,S,hk,h⟩:=h
   exact aGo hk fun x=>fR m (S x) Q (h x)
 | .skip,s,Q,h=>aIC h
 | .ret,s,Q,h=>aK3 h
 | .exit i,s,Q,h=>aIV h
 | .hole,s,Q,h=>h.elim
 | .any un lv p,s,Q,h=>by
   obtain ⟨J,h1,h2⟩:=h
   exact aLw h1 h2
 | .reg d lv ms,s,Q,h=>aIP h
 | .seq x y,s,Q,h=>aK7 (aHT (fR x s _ h) fun e s' hq=>by
   cases e with
   | normal=>exact fR y s' Q hq
   | _=>exact hq)
 | .cond p x y,s,Q,h=>by
   simp only [dA] at h
   split at h
   ·rename_i b hb
    exact aHB hb (fun e=>fR x s Q (h.1 e)) (fun e=>fR y s Q (h.2 e))
   ·exact h.elim
 | .block i x,s,Q,h=>aGw (fR x s _ h)
 | .loop b,s,Q,h=>by
   obtain ⟨ts,α,S,inv,μ,x0,hn,h0,hi,hb⟩:=h
   exact aDp ts s hn <| aIR S inv μ x0 h0 hi fun x hx=>fR b (S x) _ (hb x hx)
theorem vM {P:Program} {n:Nat×Nat} {lv:List (Nat×List Nat)} {b:Option Code} {m:MC} (h:b.bind (comp P n lv)=some m):gX m=m:=by
 cases b with
 | none=>cases h
 | some code=>exact zR code m h
theorem fK (ps:List (List Nat)) {lo:Nat} {P:PG} {f:FuncId} {fn:Func} {lv:List (Nat×List Nat)} {m:MC} {ds:List D} {R:List D->Prop} (hf:P.P.funcs[f]?=some fn)
  (hb:fn.body.bind (comp P.P (lo,fn.ntmps) lv)=some m) (hk:b6 P.P fn.results.toList=true) {n:Nat} (hnn:fn.ntmps=n) {rv:List ResultVar} (hr:fn.results.toList=rv) (hn:ds.length<=n)
  (h:dA P (dP ps m) ⟨kX 0 ds,[]⟩ (aH2 P.P rv R)):Fn P f ds R:=by
 subst hnn hr
 have he:gX (dP ps m)=m:=(lY ps m).trans (vM hb)
 cases hc:fn.body with
 | none=>rw [hc] at hb; cases hb
 | some code=>rw [hc] at hb; exact aPr hf hc hb hk hn fun c hP _=>by rw [<- he]; exact fR _ _ _ (by rw [hP]; exact h)
theorem bV {lo:Nat} {P:PG} {f:FuncId} {fn:Func} {lv:List (Nat×List Nat)} {m:MC} {ds:List D} {R:List D->Prop} (hf:P.P.funcs[f]?=some fn)
  (hb:fn.body.bind (comp P.P (lo,fn.ntmps) lv)=some m) (hk:b6 P.P fn.results.toList=true) {n:Nat} (hnn:fn.ntmps=n) {rv:List ResultVar} (hr:fn.results.toList=rv) (hn:ds.length<=n)
  (h:dA P m ⟨kX 0 ds,[]⟩ (aH2 P.P rv R)):Fn P f ds R:=fK [] hf hb hk hnn hr hn h
theorem mP (ps:List (List Nat)) {lo:Nat} {P:PG} {f:FuncId} {fn:Func} {lv:List (Nat×List Nat)} {m:MC} {bx:Bool} {x:D} {ds:List D} {R:D->List D->Prop} (hf:P.P.funcs[f]?=some fn)
  (hb:fn.body.bind (comp P.P (lo,fn.ntmps) lv)=some m) (hk:b6 P.P fn.results.toList=true) {n:Nat} (hnn:fn.ntmps=n) {rv:List ResultVar} (hr:fn.results.toList=rv) (hlo:0 < lo) (hn:ds.length + 1<=n)
  (h:dA P (dP ps m) ⟨(0,fI bx 0) :: kX 1 ds,[fN bx x]⟩ (w6 P.P rv bx R)):wP P f bx x ds R:=by
 subst hnn hr
 have he:gX (dP ps m)=m:=(lY ps m).trans (vM hb)
 cases hc:fn.body with
 | none=>rw [hc] at hb; cases hb
 | some code=>rw [hc] at hb; exact aMI hf hc hb hlo hk hn fun c hP _=>by rw [<- he]; exact fR _ _ _ (by rw [hP]; exact h)
theorem aCJ (ps:List (List Nat)) {lo:Nat} {P:PG} {f:FuncId} {fn:Func} {lv:List (Nat×List Nat)} {m:MC} {x:D} {L:List (Value×Nat×D)} {ds:List D} {R:D->List D->Prop} (hf:P.P.funcs[f]?=some fn)
  (hb:fn.body.bind (comp P.P (lo,fn.ntmps) lv)=some m) (hk:b6 P.P fn.results.toList=true) {n:Nat} (hnn:fn.ntmps=n) {rv:List ResultVar} (hr:fn.results.toList=rv) (hlo:0 < lo) (hn:ds.length + 1<=n)
  (h:dA P (dP ps m) ⟨(0,fI true 0) :: kX 1 ds,.box x :: k0 L⟩ (w6 P.P rv true R)):yW P f x L ds R:=by
 subst hnn hr
 have he:gX (dP ps m)=m:=(lY ps m).trans (vM hb)
 cases hc:fn.body with
 | none=>rw [hc] at hb; cases hb
 | some code=>rw [hc] at hb; exact aK0 hf hc hb hlo hk hn fun c hP _=>by rw [<- he]; exact fR _ _ _ (by rw [hP]; exact h)
theorem oU {lo:Nat} {P:PG} {f:FuncId} {fn:Func} {lv:List (Nat×List Nat)} {m:MC} {x:D} {L:List (Value×Nat×D)} {ds:List D} {R:D->List D->Prop} (hf:P.P.funcs[f]?=some fn)
  (hb:fn.body.bind (comp P.P (lo,fn.ntmps) lv)=some m) (hk:b6 P.P fn.results.toList=true) {n:Nat} (hnn:fn.ntmps=n) {rv:List ResultVar} (hr:fn.results.toList=rv) (hlo:0 < lo) (hn:ds.length + 1<=n)
  (h:dA P m ⟨(0,fI true 0) :: kX 1 ds,.box x :: k0 L⟩ (w6 P.P rv true R)):yW P f x L ds R:=aCJ [] hf hb hk hnn hr hlo hn h
theorem i6 {lo:Nat} {P:PG} {f:FuncId} {fn:Func} {lv:List (Nat×List Nat)} {m:MC} {bx:Bool} {x:D} {ds:List D} {R:D->List D->Prop} (hf:P.P.funcs[f]?=some fn)
  (hb:fn.body.bind (comp P.P (lo,fn.ntmps) lv)=some m) (hk:b6 P.P fn.results.toList=true) {n:Nat} (hnn:fn.ntmps=n) {rv:List ResultVar} (hr:fn.results.toList=rv) (hlo:0 < lo) (hn:ds.length + 1<=n)
  (h:dA P m ⟨(0,fI bx 0) :: kX 1 ds,[fN bx x]⟩ (w6 P.P rv bx R)):wP P f bx x ds R:=mP [] hf hb hk hnn hr hlo hn h
theorem dQ {P:PG} {m:MC} {s:St} {Q:Exit->St->Prop} {α:Type} (S:α->St) (hk:iT s S) (h:∀ x,dA P m (S x) Q):dA P (.gh m) s Q:=⟨α,S,hk,h⟩
theorem bR {P:PG} {m:MC} {s s':St} {Q:Exit->St->Prop} (hk:eN s s') (h:dA P m s' Q):dA P (.gh m) s Q:=⟨Unit,_,hk.x,fun _=>h⟩
def aMg (n:Nat) (e:gI):gI->Prop
 | []=>True
 |(k,sv) :: r=>(look e k=sv/\aKb n sv=true)/\aMg n e r
def onJ (F:(St->Prop)->Prop) (Q:St->Prop):Prop:=∃ J:St->Prop,F J/\∀ s',J s'->∃ s1,eN s' s1/\Q s1
section
variable {P : PG} {un : List Nat} {i r : Nat} {m : MOp} {k x y : MP} {R : List Nat} {s : St} {K : St -> Prop}
theorem aGe {lv:List Nat} {p:MP} {Q:Exit->St->Prop}:dA P (.any un lv p) s Q=onJ (fun J=>d4 P un p [] s fun s'=>J ⟨kS lv s'.e,s'.o⟩) (fun s1=>Q .normal s1):=propext Iff.rfl
theorem cT {F:(St->Prop)->Prop} {Q:St->Prop} (h:F Q):onJ F Q:=⟨Q,h,fun s' hs=>⟨s',eN.refl s',hs⟩⟩
theorem aEV:d4 P un .done R s K=K s:=propext Iff.rfl
theorem aFF:d4 P un (.q i m k) R s K=dS P [m] s fun s'=>d4 P un k (xF (qS s m) R) s' K:=propext Iff.rfl
theorem aDV:d4 P un (.br x y) R s K=(d4 P un x R s K/\d4 P un y R s K):=propext Iff.rfl
theorem aBg (dst:Option Nat) (e0:gI):∀ (d:List Nat) (e:gI),nU [] dst e0 d e=[]
 | _,[]=>rfl
 | d,(t,_) :: e=>by
  have:sK [] (look e0 t)=false:=by cases look e0 t<;>rfl
  simp only [nU,this,Bool.false_and,Bool.false_eq_true,if_false]
  exact aBg dst e0 (t :: d) e
theorem aCw:d4 P un (.e i m k) [] s K=dS P [m] s fun s'=>d4 P un k [] s' K:=by
 have h:tF [] s.o=[]:=by simp [tF,zC,xF]
 simp only [d4,h,eF,oW,pA,aBg,wG,List.all_nil,List.nil_append,true_and,ite_self]
def aDM (P:PG) (un:List Nat) (m:MOp) (k:MP) (R:List Nat) (s:St) (K:St->Prop):Prop :=
 dS P [m] ⟨eF R s.e,oW R s.o⟩ fun s'=>wG R s.o s'.o=true/\d4 P un k R ⟨nU R m.dst s.e [] s.e ++ eF R s'.e,pA s.o R s'.o⟩ K
def wY (P:PG) (u:Bool) (un:List Nat) (m:MOp) (k:MP) (R:List Nat) (s:St) (K:St->Prop):Prop :=
 if u then dS P [m] s fun s'=>d4 P un k [] s' K
 else aDM P un m k (tF R s.o) s K
theorem aCL:d4 P un (.e i m k) (r :: R) s K=wY P (un.contains i) un m k (r :: R) s K:=propext Iff.rfl
theorem aJW:wY P true un m k R s K=dS P [m] s fun s'=>d4 P un k [] s' K:=by simp [wY]
theorem aLl:wY P false un m k R s K=aDM P un m k (tF R s.o) s K:=by simp [wY]
theorem aKs:aDM P un m k (r :: R) s K=dS P [m] ⟨eF (r :: R) s.e,oW (r :: R) s.o⟩ fun s'=>wG (r :: R) s.o s'.o=true/\d4 P un k (r :: R) ⟨nU (r :: R) m.dst s.e [] s.e ++ eF (r :: R) s'.e,pA s.o (r :: R) s'.o⟩ K:=propext Iff.rfl
@[congr] theorem aL9 {R' : List Nat} {s' : St} (hR : R = R') (hs : s = s') : aDM P un m k R s K = aDM P un m k R' s' K := by rw [hR, hs]
@[congr] theorem aMp {p : MP} {R' : List Nat} {s' : St} (hR : R = R') (hs : s = s') : d4 P un p R s K = d4 P un p R' s' K := by rw [hR, hs]
@[congr] theorem aMl {u u' : Bool} {R' : List Nat} {s' : St} (hu : u = u') (hR : R = R') (hs : s = s') : wY P u un m k R s K = wY P u' un m k R' s' K := by rw [hu, hR, hs]
end
theorem bF {s s':St} (x:List Ob) (h:s.o=s'.o ++ x) (h2:aMg s'.o.length s.e s'.e) (h3:wT s'.o.length s'.o=true:=by rfl):eN s s':=by
 refine aFN.weak ⟨⟨x,h⟩,fun t=>?_,h3⟩
 generalize s'.e=e' at h2
 induction e' with
 | nil=>exact .inl rfl
 | cons p r ih =>
  obtain ⟨k,sv⟩:=p
  simp only [look]
  by_cases e:k=t
  ·subst e; simp only [if_true]; exact .inr ⟨h2.1.1.symm,h2.1.2⟩
  ·simp only [e,if_false]; exact ih h2.2
end Go.Pe
