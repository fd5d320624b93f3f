/-
 A layer for walks of Go functions aBR their compact code (part D): data and where they lie,contracts,the operations,the walk of code. Own work,the same in every claim of this set.
-/
import Derived.Test.YtjmobminbckhjabGreatDoorPeC
import Derived.ProofKit
import Derived.Deep.Slices
import Derived.Lib.AtoiErrMem
import Derived.RangeFuncNested
import Derived.RangeFuncCalls
import Derived.OrdersIn
import Derived.OwnWalkIn
open And renaming intro->aA
open Bool renaming and_eq_true->aC, true_or->aP
open Classical renaming choose_spec->aG
open Iff renaming rfl->aB
open List renaming nodup_append->aE, replicate->aF, mem_append->aH, append_assoc->aI, take_append_drop->aK, nodup_nil->aL, mem_of_getElem?->aM, any_cons->aN, set_cons_zero->aO, contains_cons->aQ, any_eq_false->aR, any_eq_true->aT, append_nil->aV, drop_drop->aX
open Nat renaming le_refl->aD, zero_le->aS, zero_add->aY
open Option renaming map_eq_some_iff->aJ, bind_some->aU, map_some->aW
namespace Go.Pe
open Go Go.RowKit
def lX {α:Type} (x:Option α) (K:α->Prop):Prop:=∃ y,x=some y/\K y
def lY (c:Prop) (K:Prop):Prop:=c/\K
def onI (k:IntKind) (n:Int) (K:SV->Prop):Prop:=(eA k n/\K (.d (.int k n)))\/K (.d (.int k (k.wrap n)))
theorem aP9 {α:Type} {y:α} {K:α->Prop}:lX (some y) K=K y:=by simp [lX]
theorem cM {K:Prop}:lY True K=K:=by simp [lY]
theorem cW {c K:Prop} (h:c) (k:K):lY c K:=⟨h,k⟩
theorem eY {α:Type} {x:Option α} {K:α->Prop} (y:α) (h:x=some y) (k:K y):lX x K:=⟨y,h,k⟩
theorem cV {k:IntKind} {n:Int} {K:SV->Prop} (h:eA k n) (hk:K (.d (.int k n))):onI k n K:=.inl ⟨h,hk⟩
theorem aAJ {k:IntKind} {n:Int} {K:SV->Prop} (hk:K (.d (.int k (k.wrap n)))):onI k n K:=.inr hk
@[congr] theorem aWG {α : Type} {x x' : Option α} {K : α -> Prop} (h : x = x') : lX x K = lX x' K := by rw [h]
@[congr] theorem aWF {c c' : Prop} {K : Prop} (h : c = c') : lY c K = lY c' K := by rw [h]
@[congr] theorem aWy {k : IntKind} {n n' : Int} {K : SV -> Prop} (h : n = n') : onI k n K = onI k n' K := by rw [h]
def uF (o:List Ob) (r:Nat):Option D:=match o[r]? with
 | some (.box z)=>some z
 | _=>none
def l9 (o:List Ob) (r:Nat):Option D:=match o[r]? with
 | some (.val z)=>some z
 | _=>none
def aIj (o:List Ob) (r es:Nat):Option D:=match o[r]? with
 | some (.val (.sl true es' xs))=>if es'=es then some xs else none
 | _=>none
theorem kH {o:List Ob} {r:Nat} {z:D}:uF o r=some z↔o[r]?=some (.box z):=by
 unfold uF; split
 ·rename_i h; rw [h]; simp
 ·rename_i h; constructor
  ·intro h; cases h
  ·intro h2; exact absurd h2 (h z)
theorem jC {o:List Ob} {r:Nat} {z:D}:l9 o r=some z↔o[r]?=some (.val z):=by
 unfold l9; split
 ·rename_i h; rw [h]; simp
 ·rename_i h; constructor
  ·intro h; cases h
  ·intro h2; exact absurd h2 (h z)
theorem mZ {o:List Ob} {r es:Nat} {z:D}:aIj o r es=some z↔o[r]?=some (.val (.sl true es z)):=by
 unfold aIj; split
 ·rename_i es' xs h; rw [h]
  split
  ·rename_i e; subst e; simp
  ·rename_i e; simp [e]
 ·rename_i h; constructor
  ·intro h; cases h
  ·intro h2; exact absurd h2 (h _ _)
def aLs (o:List Ob) (r es:Nat):Option (Bool×D):=match o[r]? with
 | some (.val (.sl ow es' xs))=>if es'=es then some (ow,xs) else none
 | _=>none
theorem aE8 {o:List Ob} {r es:Nat} {ow:Bool} {z:D}:aLs o r es=some (ow,z)↔o[r]?=some (.val (.sl ow es z)):=by
 unfold aLs; split
 ·rename_i ow' es' xs h; rw [h]
  split
  ·rename_i e; subst e; simp
  ·rename_i e; simp [e]
 ·rename_i h; constructor
  ·intro h; cases h
  ·intro h2; exact absurd h2 (h _ _ _)
section
variable {P : PG} {s : St} {o : List Ob} {E : Nat -> SV} {K : SV -> Prop} {KK : SV -> St -> Prop}
theorem aS1 {mo:MO}:p9 P s true mo KK=gU P s mo KK:=propext aB
theorem aQ0 {mo:MO}:p9 P s false mo KK=fO P s.o (look s.e) mo fun sv=>KK sv s:=propext aB
theorem aLZ {x:Opd}:fO P o E (.mov x) K=K (jM E x):=propext aB
def wM (c a b:SV) (K:SV->Prop):Prop:=match c with
 | .d (.bool t)=>(t=true->K a)/\(t=false->K b)
 | _=>False
theorem aJU {c x y:Opd}:fO P o E (.pick c x y) K=wM (jM E c) (jM E x) (jM E y) K:=propext aB
theorem aIz {a b:SV}:wM (.d (.bool true)) a b K=K a:=by simp [wM]
theorem aGj {a b:SV}:wM (.d (.bool false)) a b K=K b:=by simp [wM]
theorem cI {a b:SV} {t:Bool} (h1:t=true->K a) (h2:t=false->K b):wM (.d (.bool t)) a b K:=⟨h1,h2⟩
@[congr] theorem aSz {c c' a a' b b' : SV} (h : c = c') (h1 : a = a') (h2 : b = b') : wM c a b K = wM c' a' b' K := by rw [h, h1, h2]
theorem aMr {op:BinOp} {x y:Opd}:fO P o E (.bin op x y) K=mH op (jM E x) (jM E y) K:=propext aB
theorem aPd {op:BinOp} {x y:Opd}:fO P o E (.bb op x y) K=wP op (jM E x) (jM E y) K:=propext aB
theorem aOZ {op:BinOp} {x y:Opd}:fO P o E (.ie op x y) K=xI op (jM E x) (jM E y) K:=propext aB
theorem aPF {op:UnOp} {x:Opd}:fO P o E (.un op x) K=wT op (jM E x) K:=propext aB
def aB4 (x:SV) (K:SV->Prop):Prop:=match x with
 | .d (.ptr y)=>K (.d (.ptr y))
 | .ptr r off p=>K (.ptr r off p)
 | .el r es i off p=>K (.el r es i off p)
 | .d (.clo g xs)=>K (.d (.clo g xs))
 | _=>False
theorem aM8 {x:Opd}:fO P o E (.nck x) K=aB4 (jM E x) K:=propext aB
theorem aOM {agg:Option Nat} {x:Opd}:fO P o E (.ld agg x) K=mN o agg (jM E x) K:=propext aB
theorem aOu {f off:Nat} {x:Opd}:fO P o E (.fa f off x) K=dL f off (jM E x) K:=propext aB
theorem aO9 {es:Nat} {x i:Opd}:fO P o E (.ia es x i) K=sX o es (jM E x) (jM E i) K:=propext aB
theorem aO3 {x i:Opd}:fO P o E (.ix x i) K=wO (jM E x) (jM E i) K:=propext aB
theorem aM1 {b:Bool} {x:Opd}:fO P o E (.len b x) K=mI o b (jM E x) K:=propext aB
theorem aNs {x:Opd} {i:Nat}:fO P o E (.ext x i) K=vK (jM E x) i K:=propext aB
theorem aJx {k:IntKind} {x:Opd}:fO P o E (.conv k x) K=rV k (jM E x) K:=propext aB
theorem aMD {x:Opd} {lo hi:Option Opd}:fO P o E (.sls x lo hi) K=pF (jM E x) (wE E lo) (wE E hi) K:=propext aB
theorem aOA {b:Bool} {x y:Opd}:fO P o E (.mx b x y) K=aAb b (jM E x) (jM E y) K:=propext aB
def evL (E:Nat->SV):List Opd->List SV
 | []=>[]
 | p :: ps=>jM E p :: evL E ps
theorem aKO (ps:List Opd):evL E ps=ps.map (jM E):=by
 induction ps with
 | nil=>rfl
 | cons p ps ih=>simp [evL,ih]
def aCL (P:PG) (o:List Ob) (f:FuncId) (as:List SV) (K:SV->Prop):Prop :=
 ∃ ds rs,jH o as ds/\Fn P f ds (fun qs=>qs=rs)/\(as.all isD=true\/rs.all D.allOwn=true)/\K (vY (rs.map D.unown))
theorem aIh {f:FuncId} {args:List Opd}:fO P o E (.callP f args) K=aCL P o f (evL E args) K:=by rw [aKO]; rfl
@[congr] theorem aQK {f : FuncId} {as as' : List SV} (h : as = as') : aCL P o f as K = aCL P o f as' K := by rw [h]
def kX (P:PG) (s:St) (f:FuncId) (args:List Opd) (as:List SV) (K:SV->St->Prop):Prop:=as=lU s.e args->gU P s (.call f args) K
theorem aKv {f:FuncId} {args:List Opd}:gU P s (.call f args) KK=kX P s f args (lU s.e args) KK:=propext ⟨fun h _=>h,fun h=>h rfl⟩
@[congr] theorem aR8 {f : FuncId} {args : List Opd} {as as' : List SV} {s' : St} (h2 : s = s') (h : as = as') : kX P s f args as KK = kX P s' f args as' KK := by rw [h, h2]
def dQ (o:List Ob):SV->Option D
 | .d x=>some x
 | .own r=>(l9 o r).map D.unown
 | .vw r=>match uF o r with
  | some (.st xs)=>some (.st xs.unown)
  | _=>none
 | _=>none
def dH (o:List Ob):List SV->Option (List D)
 | []=>some []
 | s :: ss=>match dQ o s,dH o ss with
  | some x,some xs=>some (x :: xs)
  | _,_=>none
theorem aSE {s:SV} {x:D} (h:dQ o s=some x):aIv o s x:=by
 unfold dQ at h
 split at h
 ·injection h with h; exact h.symm
 ·rename_i r
  obtain ⟨y,h1,h2⟩:=aJ.1 h
  exact ⟨y,jC.1 h1,h2.symm⟩
 ·rename_i r
  split at h
  ·rename_i xs h1
   injection h with h
   exact ⟨xs,kH.1 h1,h.symm⟩
  ·cases h
 ·cases h
theorem oC:∀ {ss:List SV} {xs:List D},dH o ss=some xs->jH o ss xs
 | [],xs,h=>by injection h with h; exact h.symm
 | s :: ss,xs,h=>by
  unfold dH at h
  split at h
  ·rename_i x ys h1 h2
   injection h with h
   exact ⟨x,ys,h.symm,aSE h1,oC h2⟩
  ·cases h
theorem cR {f:FuncId} {as:List SV} {ds rs:List D} (hf:Fn P f ds (fun qs=>qs=rs)) (ha:dH o as=some ds) (hd:(as.all isD || rs.all D.allOwn)=true) (hk:K (vY (rs.map D.unown))):aCL P o f as K :=
 ⟨ds,rs,oC ha,hf,by simpa using hd,hk⟩
theorem cO {f:FuncId} {args:List Opd} {as:List SV} {ds rs:List D} (hf:Fn P f ds (fun qs=>qs=rs)) (ha:dH s.o as=some ds) (hd:(as.all isD || rs.all D.allOwn)=true) (hk:KK (n8 (eG rs s.o).1) ⟨s.e,(eG rs s.o).2⟩):kX P s f args as KK:=by
 intro e
 subst e
 exact ⟨_,_,kK.refl s,fun _=>.inl ⟨ds,_,oC ha,hf,fun qs h=>by subst h; exact ⟨by simpa using hd,hk⟩⟩⟩
theorem tH {f:FuncId} {args:List Opd} {as:List SV} {ds:List D} {R:List D->Prop} (hf:Fn P f ds R) (ha:dH s.o as=some ds) (hk:∀ rs,R rs->(as.all isD=true\/rs.all D.allOwn=true)/\KK (n8 (eG rs s.o).1) ⟨s.e,(eG rs s.o).2⟩):kX P s f args as KK:=by
 intro e
 subst e
 exact ⟨_,_,kK.refl s,fun _=>.inl ⟨ds,R,oC ha,hf,hk⟩⟩
theorem yB {f:FuncId} {args:List Opd} {bx:Bool} {r:Nat} {ss:List SV} {x y:D} {ds rs:List D} (hf:wQ P f bx x ds (fun x' qs=>x'=y/\qs=rs)) (hor:s.o[r]?=some (i8 bx x)) (ha:dH s.o ss=some ds) (hd:ss.all isD=true)
  (hk:KK (n8 (eG rs (s.o.set r (i8 bx y))).1) ⟨nY (gP r) s.e,(eG rs (s.o.set r (i8 bx y))).2⟩):kX P s f args (iZ bx r :: ss) KK:=by
 intro e
 refine ⟨_,_,kK.refl s,fun _=>.inr (.inl ⟨bx,r,x,ss,ds,_,e.symm,hor,oC ha,hd,hf,?_⟩)⟩
 rintro x' rs' ⟨rfl,rfl⟩
 exact hk
theorem dM {f:FuncId} {args:List Opd} {bx:Bool} {r:Nat} {ss:List SV} {x:D} {ds:List D} {R:D->List D->Prop} (hf:wQ P f bx x ds R) (hor:s.o[r]?=some (i8 bx x)) (ha:dH s.o ss=some ds) (hd:ss.all isD=true)
  (hk:∀ y rs,R y rs->KK (n8 (eG rs (s.o.set r (i8 bx y))).1) ⟨nY (gP r) s.e,(eG rs (s.o.set r (i8 bx y))).2⟩):kX P s f args (iZ bx r :: ss) KK:=by
 intro e
 exact ⟨_,_,kK.refl s,fun _=>.inr (.inl ⟨bx,r,x,ss,ds,R,e.symm,hor,oC ha,hd,hf,hk⟩)⟩
theorem aC4 {f:FuncId} {args:List Opd} {as:List SV} (h:vZ s.o as fun ds=>∃ R,Fn P f ds R/\∀ rs,R rs->rs.all D.allOwn=true/\KK (n8 (eG rs s.o).1) ⟨s.e,(eG rs s.o).2⟩):kX P s f args as KK:=by
 intro e
 subst e
 exact ⟨_,_,kK.refl s,fun _=>.inr (.inr (.inl (.inl h)))⟩
theorem aVE {f:FuncId} {args:List Opd} {as:List SV} {ds:List D} {L:List (Value×Nat×D)} {R:List D->Prop} (hf:FnL P f L ds R) (ha:dH s.o as=some ds) (hL:pI s.o L) (hk:∀ rs,R rs->rs.all D.allOwn=true/\KK (n8 (eG rs s.o).1) ⟨s.e,(eG rs s.o).2⟩):kX P s f args as KK:=by
 intro e
 subst e
 exact ⟨_,_,kK.refl s,fun _=>.inr (.inr (.inl (.inr (.inl ⟨ds,L,R,oC ha,hL,hf,hk⟩))))⟩
theorem eC {f:FuncId} {args:List Opd} {r:Nat} {ss:List SV} {x:D} {ds:List D} {L:List (Value×Nat×D)} {R:D->List D->Prop} (hf:aEt P f x L ds R) (hor:s.o[r]?=some (.box x)) (ha:dH s.o ss=some ds) (hd:ss.all (aE7 r)=true) (hL:pI s.o L)
  (hk:∀ y rs,R y rs->(y.allOwn=true/\rs.all D.allOwn=true)/\KK (n8 (eG rs (s.o.set r (i8 true y))).1) ⟨nY (gP r) s.e,(eG rs (s.o.set r (i8 true y))).2⟩):kX P s f args (iZ true r :: ss) KK:=by
 intro e
 exact ⟨_,_,kK.refl s,fun _=>.inr (.inr (.inl (.inr (.inr ⟨r,x,ss,ds,L,R,e.symm,hor,oC ha,hd,hL,hf,hk⟩))))⟩
theorem fK {f:FuncId} {args:List Opd} {as:List SV} (q:Nat) (h:kX P (m8 q s) f args (lU (m8 q s).e args) KK):kX P s f args as KK:=by
 intro _
 obtain ⟨α,S,hS,h⟩:=h rfl
 exact ⟨_,_,(aZY q s).sig fun _=>hS,fun u=>h u.2⟩
theorem qW {f:FuncId} {args:List Opd} {as:List SV} {α:Type} (S:α->St) (hk:kK s S) (h:∀ x,kX P (S x) f args (lU (S x).e args) KK):kX P s f args as KK:=by
 intro _
 have hx:∀ x,∃ (β:Type) (T:β->St),kK (S x) T/\∀ u,aT0 P (T u) f (lU (T u).e args) KK\/aTy P (T u) f (lU (T u).e args) KK\/aTU P (T u) f (lU (T u).e args) KK\/aPS P (T u) f (lU (T u).e args) KK:=fun x=>h x rfl
 exact ⟨_,_,hk.sig fun x=>aG (aG (hx x)) |>.1,fun u=>(aG (aG (hx u.1))).2 u.2⟩
theorem aSt {k:IntKind} {a b:Int}:jK .add k a b K=onI k (a + b) K:=propext aB
theorem aQ9 {k:IntKind} {a b:Int}:jK .sub k a b K=onI k (a - b) K:=propext aB
theorem aRk {k:IntKind} {a b:Int}:jK .mul k a b K=onI k (a * b) K:=propext aB
theorem aTh {k:IntKind} {a b:Int}:jK .quo k a b K=lY (b≠0) (onI k (a.tdiv b) K):=propext aB
theorem aTg {k:IntKind} {a b:Int}:jK .rem k a b K=lY (b≠0) (K (.d (.int k (a.tmod b)))):=propext aB
theorem aSK {k:IntKind} {a b:Int}:jK .and k a b K=K (.d (.int k (bits .and k a b))):=propext aB
theorem aVq {k:IntKind} {a b:Int}:jK .or k a b K=K (.d (.int k (bits .or k a b))):=propext aB
theorem aR6 {k:IntKind} {a b:Int}:jK .xor k a b K=K (.d (.int k (bits .xor k a b))):=propext aB
theorem aSX {k:IntKind} {a b:Int}:jK .eql k a b K=K (.d (.bool (decide (a=b)))):=propext aB
theorem aRj {k:IntKind} {a b:Int}:jK .neq k a b K=K (.d (.bool (!decide (a=b)))):=propext aB
theorem aSW {k:IntKind} {a b:Int}:jK .lss k a b K=K (.d (.bool (decide (a < b)))):=propext aB
theorem aS9 {k:IntKind} {a b:Int}:jK .leq k a b K=K (.d (.bool (decide (a<=b)))):=propext aB
theorem aRT {k:IntKind} {a b:Int}:jK .gtr k a b K=K (.d (.bool (decide (b < a)))):=propext aB
theorem aSn {k:IntKind} {a b:Int}:jK .geq k a b K=K (.d (.bool (decide (b<=a)))):=propext aB
theorem aRc {op:BinOp} {k:IntKind} {a b:Int}:mH op (.d (.int k a)) (.d (.int k b)) K=jK op k a b K:=by simp [mH]
theorem aSc {op:BinOp} {a b:List UInt8}:mH op (.d (.str a)) (.d (.str b)) K=sM op a b K:=propext aB
theorem aRD {a b:List UInt8}:sM .add a b K=lY (a.length + b.length<=9223372036854775807) (K (.d (.str (a ++ b)))):=propext aB
theorem aRp {a b:List UInt8}:sM .eql a b K=K (.d (.bool (decide (a=b)))):=propext aB
theorem aSI {a b:List UInt8}:sM .neq a b K=K (.d (.bool (!decide (a=b)))):=propext aB
theorem aRw {a b:List UInt8}:sM .lss a b K=K (.d (.bool (Op.bytesLess a b))):=propext aB
theorem aVv {a b:Bool}:wP .eql (.d (.bool a)) (.d (.bool b)) K=K (.d (.bool (a == b))):=propext aB
theorem aWi {a b:Bool}:wP .neq (.d (.bool a)) (.d (.bool b)) K=K (.d (.bool (!(a == b)))):=propext aB
theorem aVf {a:Bool}:xI .eql (.d (.err a)) (.d (.err true)) K=K (.d (.bool a)):=propext aB
theorem aWo {a:Bool}:xI .neq (.d (.err a)) (.d (.err true)) K=K (.d (.bool (!a))):=propext aB
theorem aWc {b:Bool}:wT .not (.d (.bool b)) K=K (.d (.bool (!b))):=propext aB
theorem aWd {k:IntKind} {n:Int}:wT .neg (.d (.int k n)) K=onI k (-n) K:=propext aB
theorem aRC {k k':IntKind} {n:Int}:rV k (.d (.int k' n)) K=onI k n K:=propext aB
theorem aXz {k k':IntKind} {b:Bool} {n m:Int}:aAb b (.d (.int k n)) (.d (.int k' m)) K=K (.d (.int k (if b then max n m else min n m))):=propext aB
theorem aSN {a:List UInt8}:mI o true (.d (.str a)) K=K (.d (.int .i64 a.length)):=propext aB
theorem aVy {ow:Bool} {es:Nat} {xs:D}:mI o false (.d (.sl ow es xs)) K=K (.d (.int .i64 xs.len)):=propext aB
theorem aQO:mI o false .nil K=K (.d (.int .i64 0)):=propext aB
def lenOf (o:List Ob) (r:Nat):Option Nat:=match l9 o r with
 | some (.sl _ _ xs)=>some xs.len
 | _=>none
theorem aRW {r:Nat}:mI o false (.own r) K=lX (lenOf o r) fun n=>K (.d (.int .i64 n)):=by
 apply propext
 simp only [mI,lX,lenOf]
 constructor
 ·rintro ⟨es,xs,ow,h,hk⟩
  exact ⟨xs.len,by rw [jC.2 h],hk⟩
 ·rintro ⟨n,h,hk⟩
  split at h
  ·rename_i ow es xs h1
   injection h with h
   subst h
   exact ⟨es,xs,ow,jC.1 h1,hk⟩
  ·cases h
theorem aWW {b:List UInt8} {k:IntKind} {n:Int}:wO (.d (.str b)) (.d (.int k n)) K=lY (0<=n) (lX (b[n.toNat]?) fun u=>K (.d (.int .u8 (u.toNat:Int)))):=by
 apply propext
 simp only [wO,lY,lX]
 constructor
 ·rintro ⟨u,h1,h2,h3⟩; exact ⟨h1,u,h2,h3⟩
 ·rintro ⟨h1,u,h2,h3⟩; exact ⟨u,h1,h2,h3⟩
theorem aY3 {es es':Nat} {ow:Bool} {xs:D} {k:IntKind} {n:Int}:sX o es (.d (.sl ow es' xs)) (.d (.int k n)) K=lY (es'=es) (lY (0<=n) (lX (xs.nth n.toNat) fun y=>K (.d (.ptr y)))):=by
 apply propext
 simp only [sX,lY,lX]
 constructor
 ·rintro ⟨h,u,h1,h2,h3⟩; exact ⟨h,h1,u,h2,h3⟩
 ·rintro ⟨h,h1,u,h2,h3⟩; exact ⟨h,u,h1,h2,h3⟩
theorem aVQ {r es:Nat} {k:IntKind} {n:Int}:sX o es (.own r) (.d (.int k n)) K=lX (aLs o r es) fun p=>lY (0<=n) (lX (p.2.nth n.toNat) fun y=>K (elS p.1 r es n.toNat y)):=by
 apply propext
 simp only [sX,lY,lX]
 constructor
 ·rintro ⟨ow,xs,y,h1,h2,h3,h4⟩; exact ⟨(ow,xs),aE8.2 h1,h2,y,h3,h4⟩
 ·rintro ⟨⟨ow,xs⟩,h1,h2,y,h3,h4⟩; exact ⟨ow,xs,y,aE8.1 h1,h2,h3,h4⟩
theorem aUY {k:IntKind} {n:Int}:fB o none (.int k n) K=K (.d (.int k n)):=by simp [fB,D.noOwn]
theorem aRP {b:Bool}:fB o none (.bool b) K=K (.d (.bool b)):=by simp [fB,D.noOwn]
theorem aPL {b:List UInt8}:fB o none (.str b) K=K (.d (.str b)):=by simp [fB,D.noOwn]
theorem aVs {b:Bool}:fB o none (.err b) K=K (.d (.err b)):=by simp [fB,D.noOwn]
theorem aXJ {b:Bool} {es:Nat} {xs:D}:fB o none (.sl b es xs) K=lY ((D.sl b es xs).noOwn=true) (K (.d (.sl b es xs))):=propext aB
def aLu (o:List Ob) (q:Nat):Option (Nat×Value):=match o[q]? with
 | some (.tag r v)=>some (r,v)
 | _=>none
theorem aFO {o:List Ob} {q r:Nat} {v:Value}:aLu o q=some (r,v)↔o[q]?=some (.tag r v):=by
 unfold aLu
 constructor
 ·intro h
  split at h
  ·rename_i r' v' h1; injection h with h; injection h with h2 h3; subst h2 h3; exact h1
  ·cases h
 ·intro h; rw [h]
theorem aU1 {q:Nat} {v:Value}:fB o none (.lnk q v) K=lX (aLu o q) fun p=>lY (p.2=v) (K (.own p.1)):=by
 apply propext
 simp only [fB,lX,lY]
 constructor
 ·rintro ⟨r,h1,h2⟩; exact ⟨(r,v),aFO.2 h1,rfl,h2⟩
 ·rintro ⟨⟨r,v'⟩,h1,h2,h3⟩; simp only at h2 h3; subst h2; exact ⟨r,aFO.1 h1,h3⟩
theorem aWL {n:Nat} {xs:D}:fB o (some n) (.st xs) K=lY (xs.size=n) (lY (xs.noOwn=true) (K (.d (.st xs)))):=propext aB
theorem aYZ {agg:Option Nat} {y:D}:mN o agg (.d (.ptr y)) K=fB o agg y K:=propext aB
theorem aV8 {agg:Option Nat} {r off:Nat} {p:List Nat}:mN o agg (.ptr r off p) K=lX (uF o r) fun z=>lY (fJ p z=off) (lX (gC p z) fun y=>fB o agg y K):=by
 apply propext
 simp only [mN,lY,lX]
 constructor
 ·rintro ⟨z,h1,h2,h3⟩; exact ⟨z,kH.2 h1,h2,h3⟩
 ·rintro ⟨z,h1,h2,h3⟩; exact ⟨z,kH.1 h1,h2,h3⟩
theorem aXE {agg:Option Nat} {r es i off:Nat} {p:List Nat}:mN o agg (.el r es i off p) K=lX (aIj o r es) fun xs=>lX (xs.nth i) fun z=>lY (fJ p z=off) (lX (gC p z) fun y=>fB o agg y K):=by
 apply propext
 simp only [mN,lY,lX]
 constructor
 ·rintro ⟨xs,z,h1,h2,h3,h4⟩; exact ⟨xs,mZ.2 h1,z,h2,h3,h4⟩
 ·rintro ⟨xs,h1,z,h2,h3,h4⟩; exact ⟨xs,z,mZ.1 h1,h2,h3,h4⟩
theorem aYV {f off:Nat} {xs:D}:dL f off (.d (.ptr (.st xs))) K=lY (xs.pre f=off) (lX (xs.nth f) fun y=>K (.d (.ptr y))):=propext aB
theorem aVC {f off r off':Nat} {p:List Nat}:dL f off (.ptr r off' p) K=K (.ptr r (off' + off) (p ++ [f])):=propext aB
theorem aXh {f off r es i off':Nat} {p:List Nat}:dL f off (.el r es i off' p) K=K (.el r es i (off' + off) (p ++ [f])):=propext aB
theorem aU7 {xs:List SV} {i:Nat}:vK (.tup xs) i K=lX xs[i]? K:=propext aB
def onT (t:Option (D×List Ob×List Nat)) (K:D->List Ob->List Nat->Prop):Prop:=∃ x,t=some x/\K x.1 x.2.1 x.2.2
@[congr] theorem aWB {t t' : Option (D × List Ob × List Nat)} {K : D -> List Ob -> List Nat -> Prop} (h : t = t') : onT t K = onT t' K := by rw [h]
theorem aWp {x:D} {K:D->List Ob->List Nat->Prop}:nR o (.d x) K=K x o []:=propext aB
theorem aN0 {r:Nat} {K:D->List Ob->List Nat->Prop}:nR o (.own r) K=lX (l9 o r) fun x=>K x (o.set r .dead) [r]:=by
 apply propext
 simp only [nR,lX]
 constructor
 ·rintro ⟨x,h1,h2⟩; exact ⟨x,jC.2 h1,h2⟩
 ·rintro ⟨x,h1,h2⟩; exact ⟨x,jC.1 h1,h2⟩
def aHH (o:List Ob) (r:Nat):Option D:=match uF o r with
 | some (.st xs)=>some xs
 | _=>none
theorem tI {r:Nat} {z:D}:aHH o r=some z↔o[r]?=some (.box (.st z)):=by
 unfold aHH; split
 ·rename_i h; rw [kH] at h; rw [h]; simp
 ·rename_i h; constructor
  ·intro h; cases h
  ·intro h2; exact absurd (kH.2 h2) (h z)
theorem aTn {r:Nat} {K:D->List Ob->List Nat->Prop}:nR o (.vw r) K=lX (aHH o r) fun xs=>K (.st xs) (o.set r .dead) [r]:=by
 apply propext
 simp only [nR,lX]
 constructor
 ·rintro ⟨x,h1,h2⟩; exact ⟨x,tI.2 h1,h2⟩
 ·rintro ⟨x,h1,h2⟩; exact ⟨x,tI.1 h1,h2⟩
theorem aMK {r off:Nat} {p:List Nat} {y:D} {K:List Ob->Nat->Prop}:uL o (.ptr r off p) y K=lX (uF o r) fun z=>lY (fJ p z=off) (lX (gC p z) fun u=>lY (y.size=u.size) (K (o.set r (.box (j8 p z y))) r)):=by
 apply propext
 simp only [uL,lX,lY]
 constructor
 ·rintro ⟨z,u,h1,h2,h3,h4,h5⟩; exact ⟨z,kH.2 h1,h2,u,h3,h4,h5⟩
 ·rintro ⟨z,h1,h2,u,h3,h4,h5⟩; exact ⟨z,u,kH.1 h1,h2,h3,h4,h5⟩
theorem aNL {r es i off:Nat} {p:List Nat} {y:D} {K:List Ob->Nat->Prop}:uL o (.el r es i off p) y K=lX (aIj o r es) fun xs=>lX (xs.nth i) fun z=>lY (fJ p z=off) (lX (gC p z) fun u=>lY (y.size=u.size) (K (o.set r (.val (.sl true es (xs.setN i (j8 p z y))))) r)):=by
 apply propext
 simp only [uL,lX,lY]
 constructor
 ·rintro ⟨xs,z,u,h1,h2,h3,h4,h5,h6⟩; exact ⟨xs,mZ.2 h1,z,h2,h3,u,h4,h5,h6⟩
 ·rintro ⟨xs,h1,z,h2,h3,u,h4,h5,h6⟩; exact ⟨xs,z,u,mZ.1 h1,h2,h3,h4,h5,h6⟩
theorem aYn {x:Opd}:gU P s (.box x) KK=nR s.o (pM s.e x) fun y o1 kr=>lY (y.isV=true) (KK (.ptr o1.length 0 []) ⟨gN kr s.e,o1 ++ [.box y]⟩):=propext aB
theorem aSY {z:D}:gU P s (.alloc z) KK=KK (.ptr s.o.length 0 []) ⟨s.e,s.o ++ [.box z]⟩:=propext aB
theorem aY4 {n:Nat} {x v:Opd}:gU P s (.st n x v) KK=nR s.o (pM s.e v) fun y o1 kr=>lY (y.isV=true) (lY (y.size=n) (lY (kr.all (fun r=>!gQ r (pM s.e x))=true) (uL o1 (pM s.e x) y fun o2 r=>KK .undef ⟨nY (gP r) (gN kr s.e),o2⟩))):=propext aB
theorem aYu {es bytes:Nat} {x y:Opd}:gU P s (.app es bytes x y) KK=aHa es bytes s.o (pM s.e x) (pM s.e y) fun sv o2 kr kk=>KK sv ⟨wX kk (gN kr s.e),o2⟩:=propext aB
theorem aY9 {es len:Nat} {z:D} {ps:List (Nat×Opd)}:gU P s (.bs es len z ps) KK=jD s.o (kN (aF len z)) (nN s.e ps) fun xs o1 kr=>KK (.own o1.length) ⟨gN kr s.e,o1 ++ [.val (.sl true es xs)]⟩:=propext aB
def aHq (s:St) (xs:D) (o1:List Ob) (kr:List Nat) (b:Bool) (KK:SV->St->Prop):Prop:=if b then KK (.d (.st xs)) ⟨gN kr s.e,o1⟩ else KK (.own o1.length) ⟨gN kr s.e,o1 ++ [.val (.st xs)]⟩
theorem aYg {z:D} {ps:List (Nat×Opd)}:gU P s (.bld z ps) KK=jD s.o z (nN s.e ps) fun xs o1 kr=>aHq s xs o1 kr xs.noOwn KK:=propext aB
@[congr] theorem aTP {xs xs' : D} {o1 o1' : List Ob} {kr : List Nat} {b b' : Bool} (h1 : xs = xs') (h2 : o1 = o1') (h3 : b = b') : aHq s xs o1 kr b KK = aHq s xs' o1' kr b' KK := by rw [h1, h2, h3]
theorem aSb {xs:D} {o1:List Ob} {kr:List Nat}:aHq s xs o1 kr true KK=KK (.d (.st xs)) ⟨gN kr s.e,o1⟩:=propext aB
theorem aQP {xs:D} {o1:List Ob} {kr:List Nat}:aHq s xs o1 kr false KK=KK (.own o1.length) ⟨gN kr s.e,o1 ++ [.val (.st xs)]⟩:=propext aB
def aR7 (s:St) (es bytes:Nat) (z:D) (n:SV) (KK:SV->St->Prop):Prop:=match n with
 | .d (.int _ m)=>(0<=m/\(bytes:Int) * m<=281474976710656/\m<=9223372036854775807)/\KK (.own s.o.length) ⟨s.e,s.o ++ [.val (.sl true es (kN (aF m.toNat z)))]⟩
 | _=>False
theorem aY5 {es bytes:Nat} {z:D} {n:Opd}:gU P s (.mk es bytes z n) KK=aR7 s es bytes z (pM s.e n) KK:=propext aB
theorem aVx {es bytes:Nat} {z:D} {k:IntKind} {m:Int}:aR7 s es bytes z (.d (.int k m)) KK=lY (0<=m/\(bytes:Int) * m<=281474976710656/\m<=9223372036854775807) (KK (.own s.o.length) ⟨s.e,s.o ++ [.val (.sl true es (kN (aF m.toNat z)))]⟩):=propext aB
theorem aL1 {xs:D} {K:D->List Ob->List Nat->Prop}:jD o xs [] K=K xs o []:=propext aB
theorem zY {xs:D} {i:Nat} {sv:SV} {ps:List (Nat×SV)} {K:D->List Ob->List Nat->Prop}:jD o xs ((i,sv) :: ps) K=nR o sv fun y o1 kr=>lX (xs.nth i) fun u=>lY (y.size=u.size) (lY (y.isV=true) (jD o1 (xs.setN i y) ps fun xs' o2 kr'=>K xs' o2 (kr ++ kr'))):=by
 apply propext
 have e:jD o xs ((i,sv) :: ps) K=nR o sv fun y o1 kr=>∃ u,xs.nth i=some u/\y.size=u.size/\y.isV=true/\jD o1 (xs.setN i y) ps fun xs' o2 kr'=>K xs' o2 (kr ++ kr'):=rfl
 rw [e]; exact aB
theorem aPK {es bytes:Nat} {ys:D} {kr:List Nat} {K:SV->List Ob->List Nat->Option Nat->Prop}:tU es bytes o .nil ys kr K=lY (ys.len * bytes<=140737488355328/\ys.len<=9223372036854775807) (K (.own o.length) (o ++ [.val (.sl true es ys)]) kr none):=propext aB
theorem aNK {es bytes r:Nat} {ys:D} {kr:List Nat} {K:SV->List Ob->List Nat->Option Nat->Prop}:tU es bytes o (.own r) ys kr K=lX (aIj o r es) fun xs=>lY ((xs.len + ys.len) * bytes<=140737488355328/\xs.len + ys.len<=9223372036854775807) (K (.own r) ((unT r o).set r (.val (.sl true es (xs.app ys)))) kr (some r)):=by
 apply propext
 simp only [tU,lX,lY]
 constructor
 ·rintro ⟨xs,h1,h2,h3⟩; exact ⟨xs,mZ.2 h1,h2,h3⟩
 ·rintro ⟨xs,h1,h2,h3⟩; exact ⟨xs,mZ.1 h1,h2,h3⟩
theorem aVL {es es' bytes:Nat} {x:SV} {ow:Bool} {ys:D} {K:SV->List Ob->List Nat->Option Nat->Prop}:aHa es bytes o x (.d (.sl ow es' ys)) K=lY (es'=es) (tU es bytes o x ys [] K):=propext aB
theorem aOr {es bytes:Nat} {x:SV} {K:SV->List Ob->List Nat->Option Nat->Prop}:aHa es bytes o x .nil K=tU es bytes o x .nil [] K:=propext aB
def aHZ (es bytes:Nat) (o:List Ob) (x:SV) (q:Nat) (ys:D) (b:Bool) (K:SV->List Ob->List Nat->Option Nat->Prop):Prop:=if b then tU es bytes o x ys [] K else tU es bytes (o.set q .dead) x ys [q] K
theorem aOP {es bytes q:Nat} {x:SV} {K:SV->List Ob->List Nat->Option Nat->Prop}:aHa es bytes o x (.own q) K=lX (aIj o q es) fun ys=>lY (x≠.own q) (aHZ es bytes o x q ys ys.noOwn K):=by
 apply propext
 simp only [aHa,lX,lY]
 constructor
 ·rintro ⟨xs,h1,h2,h3⟩; exact ⟨xs,mZ.2 h1,h2,h3⟩
 ·rintro ⟨xs,h1,h2,h3⟩; exact ⟨xs,mZ.1 h1,h2,h3⟩
@[congr] theorem aUB {es bytes q : Nat} {x : SV} {ys ys' : D} {b b' : Bool} {K : SV -> List Ob -> List Nat -> Option Nat -> Prop} (h1 : ys = ys') (h3 : b = b') : aHZ es bytes o x q ys b K = aHZ es bytes o x q ys' b' K := by rw [h1, h3]
theorem aSi {es bytes q:Nat} {x:SV} {ys:D} {K:SV->List Ob->List Nat->Option Nat->Prop}:aHZ es bytes o x q ys true K=tU es bytes o x ys [] K:=propext aB
theorem aRK {es bytes q:Nat} {x:SV} {ys:D} {K:SV->List Ob->List Nat->Option Nat->Prop}:aHZ es bytes o x q ys false K=tU es bytes (o.set q .dead) x ys [q] K:=propext aB
theorem aXY {e:jP} {t:Nat} {r:List ResultVar} {K:List D->Prop}:iM e o (.tmp t :: r) K=nR o (look e t) fun x o1 _=>iM e o1 r fun xs=>K (x :: xs):=propext aB
theorem aQ6 {e:jP} {K:List D->Prop}:iM e o [] K=K []:=propext aB
def y5 (o:List Ob) (sv:SV) (K:D->List Ob->Prop):Prop:=match sv with
 | .ptr q 0 []=>lX (aHH o q) fun xs=>K (.st xs) (o.set q .dead)
 | _=>False
theorem aWO {e:jP} {t ty:Nat} {r:List ResultVar} {K:List D->Prop}:iM e o (.cell t ty :: r) K=y5 o (look e t) fun x o1=>iM e o1 r fun ys=>K (x :: ys):=by
 apply propext
 have e1:iM e o (.cell t ty :: r) K=match look e t with
  | .ptr q 0 []=>∃ xs,o[q]?=some (.box (.st xs))/\iM e (o.set q .dead) r fun ys=>K (.st xs :: ys)
  | _=>False:=rfl
 rw [e1]
 unfold y5
 split
 ·simp only [lX,tI]
 ·exact aB
theorem aQn {q:Nat} {K:D->List Ob->Prop}:y5 o (.ptr q 0 []) K=lX (aHH o q) fun xs=>K (.st xs) (o.set q .dead):=propext aB
def aHY (P:Program) (rvs:List ResultVar) (R:List D->Prop) (s:St):Prop:=lY (gD P s.e s.o rvs) (iM s.e s.o rvs R)
@[congr] theorem aT4 {P : Program} {rvs : List ResultVar} {R : List D -> Prop} {s' : St} (h : s = s') : aHY P rvs R s = aHY P rvs R s' := by rw [h]
theorem aXt {P:Program} {rvs:List ResultVar} {R:List D->Prop}:aHu P rvs R .normal s=aHY P rvs R s:=propext aB
theorem aXk {P:Program} {rvs:List ResultVar} {R:List D->Prop}:aHu P rvs R .ret s=aHY P rvs R s:=propext aB
theorem aRJ {P:Program} {rvs:List ResultVar} {R:List D->Prop}:aHY P rvs R s=lY (gD P s.e s.o rvs) (iM s.e s.o rvs R):=propext aB
theorem aWx {e:jP} {t:Nat} {r:List ResultVar} {K:List D->List Ob->Prop}:gH e o (.tmp t :: r) K=nR o (look e t) fun x o1 _=>gH e o1 r fun xs o2=>K (x :: xs) o2:=propext aB
theorem aO2 {e:jP} {K:List D->List Ob->Prop}:gH e o [] K=K [] o:=propext aB
theorem aVB {e:jP} {t ty:Nat} {r:List ResultVar} {K:List D->List Ob->Prop}:gH e o (.cell t ty :: r) K=y5 o (look e t) fun x o1=>gH e o1 r fun ys o2=>K (x :: ys) o2:=by
 apply propext
 have e1:gH e o (.cell t ty :: r) K=match look e t with
  | .ptr q 0 []=>∃ xs,o[q]?=some (.box (.st xs))/\gH e (o.set q .dead) r fun ys o2=>K (.st xs :: ys) o2
  | _=>False:=rfl
 rw [e1]
 unfold y5
 split
 ·simp only [lX,tI]
 ·exact aB
def aIx (bx:Bool) (o:List Ob) (K:D->Prop):Prop:=∃ x',o[0]?=some (i8 bx x')/\K x'
theorem aWw {K:D->Prop}:aIx false o K=lX (l9 o 0) K:=by
 apply propext
 simp only [aIx,lX,i8]
 exact ⟨fun ⟨x,h,k⟩=>⟨x,jC.2 h,k⟩,fun ⟨x,h,k⟩=>⟨x,jC.1 h,k⟩⟩
theorem aVW {K:D->Prop}:aIx true o K=lX (uF o 0) K:=by
 apply propext
 simp only [aIx,lX,i8]
 exact ⟨fun ⟨x,h,k⟩=>⟨x,kH.2 h,k⟩,fun ⟨x,h,k⟩=>⟨x,kH.1 h,k⟩⟩
@[congr] theorem aVt {bx : Bool} {o' : List Ob} {K : D -> Prop} (h : o = o') : aIx bx o K = aIx bx o' K := by rw [h]
@[congr] theorem aOd {e e' : jP} {o' : List Ob} {rs : List ResultVar} {K : List D -> List Ob -> Prop} (he : e = e') (h : o = o') : gH e o rs K = gH e' o' rs K := by rw [h, he]
def aEz (P:Program) (rvs:List ResultVar) (bx:Bool) (R:D->List D->Prop) (s:St):Prop:=lY (gD P s.e s.o rvs) (lY (look s.e 0=iZ bx 0) (gH s.e s.o rvs fun rs o2=>aIx bx o2 fun x'=>R x' rs))
@[congr] theorem aSe {P : Program} {rvs : List ResultVar} {bx : Bool} {R : D -> List D -> Prop} {s' : St} (h : s = s') : aEz P rvs bx R s = aEz P rvs bx R s' := by rw [h]
theorem aWj {P:Program} {rvs:List ResultVar} {bx:Bool} {R:D->List D->Prop}:aCg P rvs bx R .normal s=aEz P rvs bx R s:=propext aB
theorem aV4 {P:Program} {rvs:List ResultVar} {bx:Bool} {R:D->List D->Prop}:aCg P rvs bx R .ret s=aEz P rvs bx R s:=propext aB
theorem aOg {P:Program} {rvs:List ResultVar} {bx:Bool} {R:D->List D->Prop}:aEz P rvs bx R s=lY (gD P s.e s.o rvs) (lY (look s.e 0=iZ bx 0) (gH s.e s.o rvs fun rs o2=>aIx bx o2 fun x'=>R x' rs)):=propext aB
end
@[congr] theorem aUx {o o' : List Ob} {s s' : SV} {K : D -> List Ob -> List Nat -> Prop} (ho : o = o') (hs : s = s') : nR o s K = nR o' s' K := by rw [ho, hs]
@[congr] theorem aRx {o o' : List Ob} {x x' : SV} {y y' : D} {K : List Ob -> Nat -> Prop} (ho : o = o') (hx : x = x') (hy : y = y') : uL o x y K = uL o' x' y' K := by rw [ho, hx, hy]
@[congr] theorem aND {o o' : List Ob} {xs xs' : D} {ps ps' : List (Nat × SV)} {K : D -> List Ob -> List Nat -> Prop} (ho : o = o') (hxs : xs = xs') (hps : ps = ps') : jD o xs ps K = jD o' xs' ps' K := by rw [ho, hxs, hps]
@[congr] theorem aWa {es : Nat} {bytes : Nat} {o o' : List Ob} {x x' : SV} {y y' : SV} {K : SV -> List Ob -> List Nat -> Option Nat -> Prop} (ho : o = o') (hx : x = x') (hy : y = y') : aHa es bytes o x y K = aHa es bytes o' x' y' K := by rw [ho, hx, hy]
@[congr] theorem aVM {es : Nat} {bytes : Nat} {o o' : List Ob} {x x' : SV} {ys ys' : D} {kr kr' : List Nat} {K : SV -> List Ob -> List Nat -> Option Nat -> Prop} (ho : o = o') (hx : x = x') (hys : ys = ys') (hkr : kr = kr') : tU es bytes o x ys kr K = tU es bytes o' x' ys' kr' K := by rw [ho, hx, hys, hkr]
@[congr] theorem aQD {e e' : jP} {o o' : List Ob} {rs : List ResultVar} {K : List D -> Prop} (he : e = e') (ho : o = o') : iM e o rs K = iM e' o' rs K := by rw [he, ho]
@[congr] theorem aSZ {o o' : List Ob} {x x' : SV} {K : D -> List Ob -> Prop} (ho : o = o') (hx : x = x') : y5 o x K = y5 o' x' K := by rw [ho, hx]
@[congr] theorem aSJ {o o' : List Ob} {agg : Option Nat} {x x' : SV} {K : SV -> Prop} (ho : o = o') (hx : x = x') : mN o agg x K = mN o' agg x' K := by rw [ho, hx]
@[congr] theorem aSv {o o' : List Ob} {agg : Option Nat} {y y' : D} {K : SV -> Prop} (ho : o = o') (hy : y = y') : fB o agg y K = fB o' agg y' K := by rw [ho, hy]
@[congr] theorem aSQ {o o' : List Ob} {es : Nat} {x x' : SV} {i i' : SV} {K : SV -> Prop} (ho : o = o') (hx : x = x') (hi : i = i') : sX o es x i K = sX o' es x' i' K := by rw [ho, hx, hi]
@[congr] theorem aSo {x x' : SV} {i i' : SV} {K : SV -> Prop} (hx : x = x') (hi : i = i') : wO x i K = wO x' i' K := by rw [hx, hi]
@[congr] theorem aQw {o o' : List Ob} {b : Bool} {x x' : SV} {K : SV -> Prop} (ho : o = o') (hx : x = x') : mI o b x K = mI o' b x' K := by rw [ho, hx]
@[congr] theorem aQW {f : Nat} {off : Nat} {x x' : SV} {K : SV -> Prop} (hx : x = x') : dL f off x K = dL f off x' K := by rw [hx]
@[congr] theorem aQv {x x' : SV} {i : Nat} {K : SV -> Prop} (hx : x = x') : vK x i K = vK x' i K := by rw [hx]
@[congr] theorem aOQ {k : IntKind} {x x' : SV} {K : SV -> Prop} (hx : x = x') : rV k x K = rV k x' K := by rw [hx]
@[congr] theorem aQu {x x' : SV} {lo lo' : Option SV} {hi hi' : Option SV} {K : SV -> Prop} (hx : x = x') (hlo : lo = lo') (hhi : hi = hi') : pF x lo hi K = pF x' lo' hi' K := by rw [hx, hlo, hhi]
@[congr] theorem aRa {b : Bool} {x x' : SV} {y y' : SV} {K : SV -> Prop} (hx : x = x') (hy : y = y') : aAb b x y K = aAb b x' y' K := by rw [hx, hy]
@[congr] theorem aQz {op : BinOp} {x x' : SV} {y y' : SV} {K : SV -> Prop} (hx : x = x') (hy : y = y') : mH op x y K = mH op x' y' K := by rw [hx, hy]
@[congr] theorem aSB {op : BinOp} {x x' : SV} {y y' : SV} {K : SV -> Prop} (hx : x = x') (hy : y = y') : wP op x y K = wP op x' y' K := by rw [hx, hy]
@[congr] theorem aRS {op : BinOp} {x x' : SV} {y y' : SV} {K : SV -> Prop} (hx : x = x') (hy : y = y') : xI op x y K = xI op x' y' K := by rw [hx, hy]
@[congr] theorem aS7 {op : UnOp} {x x' : SV} {K : SV -> Prop} (hx : x = x') : wT op x K = wT op x' K := by rw [hx]
@[congr] theorem aUi {x x' : SV} {K : SV -> Prop} (hx : x = x') : aB4 x K = aB4 x' K := by rw [hx]
@[congr] theorem aTS {P : PG} {o o' : List Ob} {E : Nat -> SV} {mo : MO} {K : SV -> Prop} (ho : o = o') : fO P o E mo K = fO P o' E mo K := by rw [ho]
@[congr] theorem aUp {P : PG} {s s' : St} {mo : MO} {K : SV -> St -> Prop} (hs : s = s') : gU P s mo K = gU P s' mo K := by rw [hs]
@[congr] theorem aTT {P : PG} {s s' : St} {eff : Bool} {mo : MO} {K : SV -> St -> Prop} (hs : s = s') : p9 P s eff mo K = p9 P s' eff mo K := by rw [hs]
@[congr] theorem aVR {s s' : St} {es : Nat} {bytes : Nat} {z : D} {n n' : SV} {K : SV -> St -> Prop} (hs : s = s') (hn : n = n') : aR7 s es bytes z n K = aR7 s' es bytes z n' K := by rw [hs, hn]
def aU6 (P:Program) (ty:TypeId) (o:List Ob):SV->Prop
 | .ptr q 0 []=>match aHH o q with
  | some xs=>e7 P ty=some xs.size
  | none=>True
 | _=>True
theorem aPs {P:Program} {ty q:Nat} {o:List Ob}:aU6 P ty o (.ptr q 0 [])=(match aHH o q with
  | some xs=>e7 P ty=some xs.size
  | none=>True):=propext aB
theorem aUW {P:Program} {e:jP} {o:List Ob}:gD P e o []=True:=propext aB
theorem aYT {P:Program} {e:jP} {o:List Ob} {t:Nat} {r:List ResultVar}:gD P e o (.tmp t :: r)=gD P e o r:=propext aB
theorem aY1 {P:Program} {e:jP} {o:List Ob} {t ty:Nat} {r:List ResultVar}:gD P e o (.cell t ty :: r)=(aU6 P ty o (look e t)/\gD P e o r):=by
 apply propext
 refine and_congr ?_ aB
 constructor
 ·intro h
  unfold aU6
  split
  ·rename_i q hq
   split
   ·rename_i xs hx; exact h q xs hq (tI.1 hx)
   ·trivial
  ·trivial
 ·intro h q xs hq hx
  rw [hq] at h
  rw [aPs,tI.2 hx] at h
  exact h
end Go.Pe
namespace Go.Pe
open Go Go.RowKit Go.WideShapes Go.ChangeShapes
inductive Sh where
 | int (k:IntKind)
 | bool
 | str
 | sl (es:Nat) (e:Sh)
 | st (xs:Sh)
 | nil
 | cons (x xs:Sh)
def Sh.size:Sh->Nat
 | .st xs=>xs.size
 | .nil=>0
 | .cons x xs=>x.size + xs.size
 | _=>1
def Sh.ok (P:Program):Sh->TypeId ⊕ (List Field×Nat)->Bool
 | .int k,.inl t=>match P.underlying t with
  | some (.int k')=>k' == k
  | _=>false
 | .bool,.inl t=>match P.underlying t with
  | some .bool=>true
  | _=>false
 | .str,.inl t=>match P.underlying t with
  | some .string=>true
  | _=>false
 | .sl es e,.inl t=>match P.underlying t with
  | some (.slice u)=>P.cellsOf u == es && e.size == es && e.ok P (.inl u)
  | _=>false
 | .st xs,.inl t=>match P.underlying t with
  | some (.struct fs)=>P.cellsOf t == xs.size && xs.ok P (.inr (fs.toList,0))
  | _=>false
 | .nil,.inr ([],_)=>true
 | .cons x xs,.inr (f :: fs,off)=>f.offset == off && P.cellsOf f.type == x.size && x.ok P (.inl f.type) && xs.ok P (.inr (fs,off + x.size))
 | _,_=>false
def mE:Sh->D->Prop
 | .int k,x=>∃ n,x=.int k n/\(Lit.int k n).wf=true
 | .bool,x=>∃ b,x=.bool b
 | .str,x=>∃ s,x=.str s/\s.length<=maxLen
 | .sl es e,x=>∃ xs:List D,x=.sl false es (kN xs)/\xs.length<=maxLen/\∀ y∈xs,mE e y
 | .st fs,x=>∃ xs,x=.st xs/\mE fs xs
 | .nil,x=>x=.nil
 | .cons f fs,x=>∃ y ys,x=.cons y ys/\mE f y/\mE fs ys
theorem mE.size:∀ (sh:Sh) (x:D),mE sh x->x.size=sh.size
 | .int _,x,h=>by obtain ⟨n,rfl,_⟩:=h; rfl
 | .bool,x,h=>by obtain ⟨n,rfl⟩:=h; rfl
 | .str,x,h=>by obtain ⟨n,rfl,_⟩:=h; rfl
 | .sl _ _,x,h=>by obtain ⟨n,rfl,_⟩:=h; rfl
 | .st fs,x,h=>by obtain ⟨xs,rfl,h⟩:=h; exact mE.size fs xs h
 | .nil,x,h=>by rw [h]; rfl
 | .cons f fs,x,h=>by
  obtain ⟨y,ys,rfl,h1,h2⟩:=h
  show y.size + ys.size=f.size + fs.size
  rw [mE.size f y h1,mE.size fs ys h2]
section
variable {H : Type} {enc : TypeId × Value -> H} {P : Program} {w : World} {base : Nat} {spare : Nat -> Bool} {held : Bool}
theorem aPr {a:Addr} {es:Nat} {e:Sh}:∀ (k:Nat) (_:∀ i,i < k->∃ cs x,(∀ j u,cs[j]?=some u->w.cell? ((a.add (i * es)).add j)=some u)/\cs.length=es/\D.rep w (fun _=>False) x cs []/\mE e x),
  ∃ xs ds,xs.length=k/\ds.length=k * es/\(kN xs).rep w (fun _=>False) ds []/\(∀ y∈xs,mE e y)/\∀ j u,ds[j]?=some u->w.cell? (a.add j)=some u
 | 0,_=>⟨[],[],rfl,by simp,⟨rfl,rfl⟩,by simp,by simp⟩
 | k + 1,h=>by
  obtain ⟨xs,ds,h1,h2,h3,h4,h5⟩:=aPr k fun i hi=>h i (by omega)
  obtain ⟨cs,x,g1,g2,g3,g4⟩:=h k (by omega)
  refine ⟨xs ++ [x],ds ++ cs,by simp [h1],by simp [h2,g2,Nat.succ_mul],?_,?_,?_⟩
  ·exact (gE xs [x] (ds ++ cs) []).2 ⟨ds,cs,[],[],rfl,rfl,h3,cs,[],[],[],by simp,rfl,g3,rfl,rfl⟩
  ·intro y hy
   rcases aH.1 hy with hy|hy
   ·exact h4 y hy
   ·rw [List.mem_singleton.1 hy]; exact g4
  ·intro j u hu
   by_cases hj:j < ds.length
   ·rw [List.getElem?_append_left hj] at hu; exact h5 j u hu
   ·rw [List.getElem?_append_right (by omega)] at hu
    have:=g1 _ u hu
    rw [aLE,h2,show k * es + (j - k * es)=j by omega] at this
    exact this
theorem aDf:∀ (sh:Sh) (q:TypeId ⊕ (List Field×Nat)),sh.ok P q=true->match q with
  | .inl t=>∀ (fuel:Nat) (cs:List Value) (x:DataW H×List MemPlace),DataW.trod enc P w base spare held fuel t cs=some x->∃ d,d.rep w (fun _=>False) cs []/\mE sh d
  | .inr (fs,off)=>∀ (n:Nat) (cs:List Value),cs.length=off + sh.size->(∀ f∈fs,∃ y,DataW.trod enc P w base spare held n f.type ((cs.drop f.offset).take (P.cellsOf f.type))=some y) ->
    ∃ d,d.rep w (fun _=>False) (cs.drop off) []/\mE sh d
 | .int k,.inl t,hok=>by
  intro fuel cs x h
  unfold Sh.ok at hok
  split at hok
  ·rename_i k' ht
   have:k'=k:=by simpa using hok
   subst this
   obtain ⟨n,rfl,_,hw⟩:=DataW.trod_int ht h
   exact ⟨.int k' n,⟨rfl,rfl⟩,n,rfl,hw⟩
  ·cases hok
 | .bool,.inl t,hok=>by
  intro fuel cs x h
  unfold Sh.ok at hok
  split at hok
  ·rename_i ht
   obtain ⟨n,rfl,_⟩:=DataW.trod_bool ht h
   exact ⟨.bool n,⟨rfl,rfl⟩,n,rfl⟩
  ·cases hok
 | .str,.inl t,hok=>by
  intro fuel cs x h
  unfold Sh.ok at hok
  split at hok
  ·rename_i ht
   obtain ⟨s,rfl,_,hs⟩:=DataW.trod_string ht h
   exact ⟨.str s.data.toList,⟨rfl,rfl⟩,_,rfl,by simpa using hs⟩
  ·cases hok
 | .sl es e,.inl t,hok=>by
  intro fuel cs x h
  unfold Sh.ok at hok
  split at hok
  ·rename_i u ht
   simp only [aC,beq_iff_eq] at hok
   obtain ⟨⟨hu,hes⟩,hoke⟩:=hok
   rcases Go.Deep.open_slice ht h with ⟨rfl,_⟩|⟨a,len,cap,m,n,D',Pl,rfl,hb,hl,hm,hmm,_,hx⟩
   ·exact ⟨.sl false es .nil,⟨trivial,none,0,[],[],rfl,aD _,⟨rfl,rfl⟩,rfl,rfl,.inl rfl⟩,[],rfl,aS _,by simp⟩
   ·have hlm:len<=m:=by rw [hmm]; split<;>omega
    have hel:∀ i,i < len->∃ cs x,(∀ j u,cs[j]?=some u->w.cell? ((a.add (i * es)).add j)=some u)/\cs.length=es/\Go.Pe.D.rep w (fun _=>False) x cs []/\mE e x:=by
     intro i hi
     obtain ⟨cs',h1,h2⟩:=hx i (by omega)
     rw [hu] at h1
     obtain ⟨_,g2,g3⟩:=World.cells?_some h1
     obtain ⟨d,hd,hty⟩:=aDf e (.inl u) hoke _ _ _ h2
     refine ⟨cs',d,fun j v hv=>?_,g2,hd,hty⟩
     rw [g3 j (by rw [<- g2]; exact c6 hv)]; exact hv
    obtain ⟨xs,ds,h1,h2,h3,h4,h5⟩:=aPr len hel
    have hlen:(kN xs).len=len:=by rw [fM,h1]
    refine ⟨.sl false es (kN xs),⟨(jX xs).2 fun y hy=>(mE.size e y (h4 y hy)).trans hes,some a,cap,ds,[],by rw [hlen],by rw [hlen]; exact hl,h3,rfl,rfl,.inr ⟨a,rfl,?_⟩⟩,xs,rfl,by rw [h1]; omega,h4⟩
    cases hds:ds with
    | nil=>exact .inl rfl
    | cons v vs =>
     have h0:=h5 0 v (by rw [hds]; rfl)
     have hlt:=Go.Lib.lt_of_cell h0
     rw [q8] at hlt
     exact .inr ⟨hlt,fun h=>h,by rw [<- hds]; exact h5⟩
  ·cases hok
 | .st xs,.inl t,hok=>by
  intro fuel cs x h
  unfold Sh.ok at hok
  split at hok
  ·rename_i fs ht
   simp only [aC,beq_iff_eq] at hok
   obtain ⟨hc,hok⟩:=hok
   obtain ⟨ys,n,_,_,hlen,hy,hf⟩:=DataW.trod_struct ht h
   obtain ⟨d,hd,hty⟩:=aDf xs (.inr (fs.toList,0)) hok n cs (by rw [hlen,hc,aY]) (by
    intro f hf'
    obtain ⟨i,hi,he⟩:=List.getElem_of_mem hf'
    have hi2:i < ys.length:=by rw [hy]; simpa using hi
    exact ⟨ys[i],by rw [hf i f (by rw [<- he]; simp),List.getElem?_eq_getElem hi2]⟩)
   exact ⟨.st d,(show d.rep w _ cs [] from by simpa using hd),d,rfl,hty⟩
  ·cases hok
 | .nil,.inr ([],off),hok=>by
  intro n cs hlen _
  exact ⟨.nil,⟨by simp [Sh.size] at hlen; simp [hlen],rfl⟩,rfl⟩
 | .cons x xs,.inr (f :: fs,off),hok=>by
  intro n cs hlen hf
  unfold Sh.ok at hok
  simp only [aC,beq_iff_eq] at hok
  obtain ⟨⟨⟨ho,hc⟩,hx⟩,hxs⟩:=hok
  obtain ⟨y,hy⟩:=hf f (by simp)
  obtain ⟨d,hd,hty⟩:=aDf x (.inl f.type) hx _ _ _ hy
  obtain ⟨ds,hds,htys⟩:=aDf xs (.inr (fs,off + x.size)) hxs n cs (by rw [hlen]; simp only [Sh.size]; omega) (fun g hg=>hf g (by simp [hg]))
  rw [ho,hc] at hd
  refine ⟨.cons d ds,⟨(cs.drop off).take x.size,cs.drop (off + x.size),[],[],?_,rfl,hd,hds⟩,d,ds,rfl,hty,htys⟩
  rw [<- aX,aK]
 | .int _,.inr _,hok=>by simp [Sh.ok] at hok
 | .bool,.inr _,hok=>by simp [Sh.ok] at hok
 | .str,.inr _,hok=>by simp [Sh.ok] at hok
 | .sl _ _,.inr _,hok=>by simp [Sh.ok] at hok
 | .st _,.inr _,hok=>by simp [Sh.ok] at hok
 | .nil,.inl _,hok=>by simp [Sh.ok] at hok
 | .nil,.inr (_ :: _,_),hok=>by simp [Sh.ok] at hok
 | .cons _ _,.inl _,hok=>by simp [Sh.ok] at hok
 | .cons _ _,.inr ([],_),hok=>by simp [Sh.ok] at hok
theorem aHc {r:Reach} {b0:Nat} {t:TypeId} {v:Value} {d:DataW H} {ps:List MemPlace} (sh:Sh) (hok:sh.ok P (.inl t)=true) (hval:Value.okWide P w r b0 t v)
  (hd:DataW.Trod enc P w base spare held t v d ps):∃ x cs,x.rep w (fun _=>False) cs []/\v=iU x cs/\mE sh x:=by
 obtain ⟨fuel,hf⟩:=hd
 obtain ⟨x,hx,hty⟩:=aDf sh (.inl t) hok fuel _ _ hf
 refine ⟨x,_,hx,?_,hty⟩
 cases sh with
 | int k =>
  unfold Sh.ok at hok
  split at hok
  ·rename_i k' ht
   obtain ⟨n,rfl⟩:=okWide_int ht hval
   obtain ⟨m,rfl,_⟩:=hty
   rfl
  ·cases hok
 | bool =>
  unfold Sh.ok at hok
  split at hok
  ·rename_i ht
   obtain ⟨n,rfl⟩:=okWide_bool ht hval
   obtain ⟨m,rfl⟩:=hty
   rfl
  ·cases hok
 | str =>
  unfold Sh.ok at hok
  split at hok
  ·rename_i ht
   obtain ⟨n,rfl⟩:=okWide_string ht hval
   obtain ⟨m,rfl,_⟩:=hty
   rfl
  ·cases hok
 | sl es e =>
  unfold Sh.ok at hok
  split at hok
  ·rename_i u ht
   obtain ⟨a,l,c,rfl⟩:=okWide_slice ht hval
   obtain ⟨m,rfl,_⟩:=hty
   rfl
  ·cases hok
 | st xs =>
  unfold Sh.ok at hok
  split at hok
  ·rename_i fs ht
   obtain ⟨cs,rfl,_⟩:=okWide_struct ht hval
   obtain ⟨m,rfl,_⟩:=hty
   simp [iU,Value.cells]
  ·cases hok
 | nil=>simp [Sh.ok] at hok
 | cons _ _=>simp [Sh.ok] at hok
end
end Go.Pe
namespace Go.Pe
open Go Go.RowKit
theorem zR {w:World} {x:D} {xs:List D} {cs:List Value} {us:List Value} (h:x.rep w (fun _=>False) cs []) (hs:fH w (fun _=>False) xs us []):fH w (fun _=>False) (x :: xs) (iU x cs :: us) [] :=
 ⟨cs,us,[],[],rfl,rfl,h,hs⟩
theorem aBS {w:World}:fH w (fun _=>False) [] [] []:=⟨rfl,rfl⟩
theorem Fn.walk {P:PG} {f:FuncId} {ds:List D} {vs:List Value} {w:World} (h:Fn P f ds (fun rs=>rs=[.bool true])) (hF:P.F w) (hv:fH w (fun _=>False) ds vs []) :
  Calls P.P f vs.toArray w fun e w'=>e=.returned (.bool true)/\Below w.heap.size w w':=by
 refine (h (fun _=>False) vs w (fun b hb=>hb.elim) ⟨w,hF,aD _,fun _ _=>⟨fun h=>h,rfl⟩⟩ hv).mono fun e w' ⟨rs,us,fp,he,hr,hrep,_,_,hx⟩=>?_
 subst hr
 obtain ⟨cs,us',f1,f2,rfl,_,⟨rfl,_⟩,rfl,_⟩:=hrep
 exact ⟨he,hx⟩
def dl {α:Type} (f:α->D) (xs:List α):D:=kN (xs.map f)
section
variable {α : Type} {f : α -> D}
theorem cU (xs:List α):(dl f xs).len=xs.length:=by simp [dl,fM]
theorem dC (xs:List α) (i:Nat):(dl f xs).nth i=(xs[i]?).map f:=by simp [dl,r8]
theorem zJ (xs ys:List α):(dl f xs).app (dl f ys)=dl f (xs ++ ys):=by simp [dl,aGB]
theorem s7 (h:∀ a,(f a).unown=f a) (xs:List α):(dl f xs).unown=dl f xs:=by
 have e:D.unown ∘ f=f:=funext h
 simp [dl,aFG,e]
theorem pO (h:∀ a,(f a).noOwn=true):∀ xs:List α,(dl f xs).noOwn=true
 | []=>rfl
 | x :: xs=>by
  show ((f x).noOwn && (dl f xs).noOwn)=true
  rw [h,pO h xs]; rfl
theorem o9 (h:∀ a,(f a).allOwn=true):∀ xs:List α,(dl f xs).allOwn=true
 | []=>rfl
 | x :: xs=>by
  show ((f x).allOwn && (dl f xs).allOwn)=true
  rw [h,o9 h xs]; rfl
theorem kZ:∀ (xs:List α) (i:Nat) (a:α),(dl f xs).setN i (f a)=dl f (xs.set i a)
 | [],i,a=>by cases i<;>rfl
 | x :: xs,0,a=>rfl
 | x :: xs,i + 1,a=>by
  show D.cons (f x) ((dl f xs).setN i (f a))=D.cons (f x) (dl f (xs.set i a))
  rw [kZ xs i a]
theorem aGG (n:Nat) (a:α):kN (aF n (f a))=dl f (aF n a):=by simp [dl]
theorem dS {xs:List α} {i:Nat} (h:i < xs.length):∃ a,xs[i]?=some a:=⟨xs[i],List.getElem?_eq_getElem h⟩
theorem aMp {xs:List α} {i:Nat} {a z:α} (h:xs[i]?=some a):(xs.take i ++ aF (xs.length - i) z).set i a=xs.take (i + 1) ++ aF (xs.length - (i + 1)) z:=by
 have hi:=c6 h
 rw [List.set_append_right _ _ (by simp; omega),List.length_take,Nat.min_eq_left (by omega),Nat.sub_self,show xs.length - i=(xs.length - (i + 1)) + 1 by omega,List.replicate_succ,aO,
  List.take_add_one,h]
 simp
theorem aDA {e:Sh} {P:α->Prop} (h:∀ x,mE e x->∃ a,x=f a/\P a):∀ xs:List D,(∀ y∈xs,mE e y)->∃ ys:List α,kN xs=dl f ys/\ys.length=xs.length/\∀ a∈ys,P a
 | [],_=>⟨[],rfl,rfl,by simp⟩
 | x :: xs,hx=>by
  obtain ⟨a,rfl,ha⟩:=h x (hx x (by simp))
  obtain ⟨ys,h1,h2,h3⟩:=aDA h xs fun y hy=>hx y (by simp [hy])
  refine ⟨a :: ys,?_,by simp [h2],?_⟩
  ·show D.cons (f a) (kN xs)=D.cons (f a) (dl f ys)
   rw [h1]
  ·intro b hb
   rcases List.mem_cons.1 hb with hb|hb
   ·rw [hb]; exact ha
   ·exact h3 b hb
end
theorem aSA {k:IntKind} {n:Int}:(D.int k n).isV=true:=rfl
theorem aPu {b:Bool}:(D.bool b).isV=true:=rfl
theorem aSG {b:List UInt8}:(D.str b).isV=true:=rfl
theorem aRg {b:Bool}:(D.err b).isV=true:=rfl
theorem aVk {o:Bool} {es:Nat} {xs:D}:(D.sl o es xs).isV=true:=rfl
theorem aU9 {xs:D}:(D.st xs).isV=true:=rfl
theorem aRs {x:D}:(D.ptr x).isV=true:=rfl
theorem aRl {g:Nat} {x:D}:(D.clo g x).isV=true:=rfl
def iD (n:Int):D:=.int .i64 n
theorem lH {o:List Ob} {K:D->List Ob->List Nat->Prop} (es:Nat) (h:K (.sl true es .nil) o []):nR o .nil K:=⟨es,h⟩
theorem iT {α:Type} {f:α->D} (xs:List α) (a:α):(dl f xs).app (D.cons (f a) .nil)=dl f (xs ++ [a]):=zJ xs [a]
theorem g7 (xs:List Int) (n:Int):(dl iD xs).app (D.cons (.int .i64 n) .nil)=dl iD (xs ++ [n]):=zJ xs [n]
theorem aOj (n:Int):(iD n).unown=iD n:=rfl
theorem aOl (n:Int):(iD n).noOwn=true:=rfl
theorem xJ (n:Int):(iD n).allOwn=true:=rfl
end Go.Pe
set_option linter.all false
namespace Go.Pe
open Go Go.RowKit
def lN:Ob->Option Nat->List Nat->Option D
 | .box z,none,p=>gC p z
 | .val (.sl true _ xs),some i,p=>(xs.nth i).bind (gC p)
 | .val (.st xs),none,f :: p=>gC (f :: p) (.st xs)
 | _,_,_=>none
def eS:Ob->Option Nat->List Nat->D->Ob
 | .box z,none,p,y=>.box (j8 p z y)
 | .val (.sl true es xs),some i,p,y=>.val (.sl true es (xs.setN i (j8 p ((xs.nth i).getD .nil) y)))
 | .val (.st xs),none,f :: p,y=>.val (j8 (f :: p) (.st xs) y)
 | ob,_,_,_=>ob
theorem aBg (ob:Ob) (i:Option Nat) (p:List Nat) (y u:D) (h:lN ob i p=some u) (r:Nat) (v:Value):eS ob i p y≠.tag r v:=by
 unfold lN at h
 split at h
 ·intro h2; cases h2
 ·intro h2; cases h2
 ·intro h2; cases h2
 ·cases h
theorem x5 {α:Type} (cs ds:List α) (k n:Nat) (h:(cs.drop k).take n=ds):cs.take k ++ ds ++ cs.drop (k + n)=cs:=by
 subst h
 rw [aI,show cs.drop (k + n)=(cs.drop k).drop n by rw [aX],aK,aK]
theorem zZ {w:World} {M:Nat->Prop} {ob:Ob} {i:Option Nat} {p:List Nat} {u:D} {oc:OC} (h:iH w M ob oc) (hp:lN ob i p=some u) :
  ∃ f1 f0 f2 ds,oc.fp=f1 ++ f0 ++ f2/\u.rep w M ds f0/\∀ (M':Nat->Prop) (y:D) (fy:List Nat),(∀ b,b < w.heap.size->M' b->M b)->y.rep w M' ds fy->iH w M' (eS ob i p y) { oc with fp:=f1 ++ fy ++ f2 }:=by
 unfold lN at hp
 split at hp
 ·rename_i z
  obtain ⟨cs,fps,h1,h2,h3⟩:=h
  obtain ⟨f1,f0,f2,hf,hr,hle,hset⟩:=tY p z cs fps u h2 hp
  refine ⟨oc.blk :: f1,f0,f2,_,by rw [h3,hf]; simp,hr,fun M' y fy hM hy=>?_⟩
  have hs:y.size=u.size:=(dP _ _ _ hy).symm.trans (dP _ _ _ hr)
  have:=hset w M' y _ fy ⟨aD _,hM,fun _ _ _=>rfl⟩ hy hs
  rw [x5 _ _ _ _ rfl] at this
  exact ⟨cs,_,h1,this,by simp⟩
 ·rename_i es xs i
  obtain ⟨cs,h1,h2⟩:=h
  obtain ⟨hL,a,c',ds,fps,e1,e2,h3,h4⟩:=h1
  cases hz:xs.nth i with
  | none=>rw [hz] at hp; cases hp
  | some z =>
   rw [hz] at hp
   have hp:gC p z=some u:=hp
   obtain ⟨g1,g0,g2,hg,hr1,hl1,hset1⟩:=aAK xs ds fps i z h3 hz
   obtain ⟨f1,f0,f2,hf,hr,hle,hset⟩:=tY p z _ g0 u hr1 hp
   simp only [if_true] at h4
   have hne:xs.len≠0:=by have:=aLA xs i z hz; omega
   rcases h4 with ⟨hc,_,_⟩|⟨g,ha,hrow,hfp⟩
   ·omega
   ·refine ⟨g :: (g1 ++ f1),f0,f2 ++ g2,_,by rw [hfp,hg,hf]; simp,hr,fun M' y fy hM hy=>?_⟩
    have hs:y.size=u.size:=(dP _ _ _ hy).symm.trans (dP _ _ _ hr)
    have k1:=hset w M' y _ fy ⟨aD _,hM,fun _ _ _=>rfl⟩ hy hs
    rw [x5 _ _ _ _ rfl] at k1
    have k2:=hset1 w M' _ _ _ ⟨aD _,hM,fun _ _ _=>rfl⟩ k1 (t6 p z u y hp hs)
    rw [x5 _ _ _ _ rfl] at k2
    have hzs:z.size=es:=(aAp xs i z hL hz).2.1
    have hzg:(xs.nth i).getD .nil=z:=by rw [hz]; rfl
    simp only [eS,hzg]
    refine ⟨cs,⟨aC3 xs i _ hL (by rw [t6 p z u y hp hs]; exact hzs),a,c',ds,_,by rw [e1,tD],by rw [tD]; exact e2,by simpa [hz] using k2,?_⟩,h2⟩
    simp only [if_true]
    exact .inr ⟨g,ha,hrow,by simp⟩
 ·rename_i zs f p
  obtain ⟨cs,h1,h2⟩:=h
  obtain ⟨f1,f0,f2,hf,hr,hle,hset⟩:=tY (f :: p) (.st zs) cs oc.fp u h1 hp
  refine ⟨f1,f0,f2,_,hf,hr,fun M' y fy hM hy=>?_⟩
  have hs:y.size=u.size:=(dP _ _ _ hy).symm.trans (dP _ _ _ hr)
  have:=hset w M' y _ fy ⟨aD _,hM,fun _ _ _=>rfl⟩ hy hs
  rw [x5 _ _ _ _ rfl] at this
  refine ⟨cs,this,?_⟩
  show oc.v=_
  rw [h2]
  unfold j8
  split<;>rfl
 ·cases hp
def qE:List Nat->jP->jP
 | [],e=>e
 | r :: rs,e=>qE rs (nY (gP r) e)
theorem sG:∀ (ks:List Nat) (e:jP) (t:Nat),look (qE ks e) t=if ks.any (fun r=>gP r (look e t)) then .any else look e t
 | [],e,t=>by simp [qE]
 | r :: rs,e,t=>by
  simp only [qE]
  rw [sG rs,lK (gP r) rfl]
  by_cases h:gP r (look e t)=true
  ·simp only [h,if_true,aN,aP]
   split<;>rfl
  ·simp [h]
theorem Rel.regroup {c:Ctx} {s:St} {C:List OC} {a:Act} {w:World} (h:Rel c s C a w) (ks:List Nat) {o':List Ob} {C':List OC} (hlen:o'.length=C'.length)
  (hsame:∀ (r:Nat) (oc:OC),C[r]?=some oc->∃ oc',C'[r]?=some oc'/\oc'.v=oc.v/\oc'.blk=oc.blk/\(r ∉ ks->oc'=oc))
  (hob:∀ (r:Nat) (ob:Ob) (oc:OC),o'[r]?=some ob->C'[r]?=some oc->(s.o[r]?=some ob/\C[r]?=some oc)\/iH w (Ms c C') ob oc)
  (hnd:(fR C').Nodup) (hsub:∀ b∈fR C',b∈fR C)
  (htag:∀ (q r:Nat) (v:Value),o'[q]?=some (.tag r v)->s.o[q]?=some (.tag r v)\/∃ oc,C'[r]?=some oc/\oc.v=v):Rel c ⟨qE ks s.e,o'⟩ C' a w:=by
 have hg:Went w w (fun _=>False):=aZH (mO.refl w) _
 have hX:∀ b,(fun _=>False:Nat->Prop) b->b∈fR C:=fun b hb=>hb.elim
 have hmem:∀ b∈fR C',(b∈fR C\/w.heap.size<=b)/\b < w.heap.size:=fun b hb=>⟨.inl (hsub b hb),h.wd.lt b (hsub b hb)⟩
 have hval:∀ (r:Nat) (oc:OC),C[r]?=some oc->∃ oc',C'[r]?=some oc'/\oc'.v=oc.v:=fun r oc h1=>by
  obtain ⟨oc',h2,h3,_⟩:=hsame r oc h1
  exact ⟨oc',h2,h3⟩
 refine ⟨h.tmps,h.defers,gX.upd (f:=fun s=>ks.any fun r=>gP r s) hg hX hmem ?_ ?_ (sG ks s.e) h.env,h.wd.upd hg hX hlen ?_ hnd hmem htag (fun q r v oc _ h1=>hval r oc h1),h.fix⟩
 ·intro s r oc _ _ h1
  obtain ⟨oc',h2,h3,h4,_⟩:=hsame r oc h1
  exact ⟨oc',h2,h3,h4⟩
 ·intro s r oc oc' hf hr h1 h2 h3
  obtain ⟨oc2,h4,_,_,h5⟩:=hsame r oc h1
  have hk:r ∉ ks:=fun hk=>by
   have:=aR.1 hf r hk
   exact this hr
  rw [h4] at h3
  injection h3 with h3
  subst h3
  rw [h5 hk]
  exact ⟨h2,fun h=>h⟩
 ·intro r ob oc h1 h2
  rcases hob r ob oc h1 h2 with ⟨h3,h4⟩|h3
  ·exact .inl ⟨h3,h4,fun _ _ h=>h⟩
  ·exact .inr h3
theorem aFb {α:Type} {f1 f0 f2:List α} (h:(f1 ++ f0 ++ f2).Nodup):(f1 ++ f2).Nodup/\f0.Nodup/\∀ b∈f0,b ∉ f1 ++ f2:=by
 rw [aI,aE] at h
 obtain ⟨h1,h2,h3⟩:=h
 rw [aE] at h2
 obtain ⟨h4,h5,h6⟩:=h2
 refine ⟨aE.2 ⟨h1,h5,fun a ha b hb=>h3 a ha b (by simp [hb])⟩,h4,fun b hb hm=>?_⟩
 rcases aH.1 hm with hm|hm
 ·exact h3 b hm b (by simp [hb]) rfl
 ·exact h6 b hb b hm rfl
section
variable {c : Ctx} {s : St} {C : List OC} {a : Act} {w : World}
theorem aGO {s:St} (ow:Bool) (r:Nat) {ob:Ob} (i:Option Nat) (p:List Nat) {es:Nat} {xs:D} (h1:s.o[r]?=some ob) (hp:lN ob i p=some (.sl ow es xs)) :
  kK s (fun v:Value=>⟨qE [r] s.e,s.o.set r (eS ob i p (.lnk (s.o.length + 1) v)) ++ [.val (.sl ow es xs),.tag s.o.length v]⟩):=by
 intro c C a w h
 have hr:=c6 h1
 have hlen:=h.wd.len
 obtain ⟨oc,h2⟩:∃ oc,C[r]?=some oc:=⟨C[r]'(by omega),List.getElem?_eq_getElem _⟩
 have hrC:=c6 h2
 obtain ⟨f1,f0,f2,ds,hf,hrep,hset⟩:=zZ (h.wd.obs r ob oc h1 h2) hp
 have hnC:=eE.1 h.wd.nodup
 have hocn:=hnC.1 r oc h2
 rw [hf] at hocn
 obtain ⟨n1,n2,n3⟩:=aFb hocn
 have hrep0:=hrep
 obtain ⟨_,av,cv,_,_,hds,_⟩:=hrep
 obtain ⟨v,rfl⟩:∃ v,ds=[v]:=⟨_,hds⟩
 have hone:=qQ _ _ _ hrep0 v (by simp)
 let C':List OC:=C.set r { oc with fp:=f1 ++ [] ++ f2 } ++ [{ v:=v,blk:=0,fp:=f0 },{ v:=Go.undef,blk:=0,fp:=[] }]
 have hcase:∀ (j:Nat) (od:OC),C'[j]?=some od->(j=r/\od={ oc with fp:=f1 ++ [] ++ f2 })\/(j≠r/\j < C.length/\C[j]?=some od)\/(j=C.length/\od={ v:=v,blk:=0,fp:=f0 })\/(j=C.length + 1/\od={ v:=Go.undef,blk:=0,fp:=[] }):=by
  intro j od hj
  rcases gV hrC hj with ⟨e1,e2⟩|⟨e1,e2,e3⟩|⟨e1,e2⟩
  ·exact .inl ⟨e1,e2⟩
  ·exact .inr (.inl ⟨e1,e2,e3⟩)
  ·match hk:j - C.length,e2 with
   | 0,e2=>simp at e2; exact .inr (.inr (.inl ⟨by omega,e2.symm⟩))
   | 1,e2=>simp at e2; exact .inr (.inr (.inr ⟨by omega,e2.symm⟩))
   | k + 2,e2=>simp at e2
 have hin:∀ b∈f1 ++ f0 ++ f2,b∈oc.fp:=fun b hb=>by rw [hf]; exact hb
 have hsub:∀ b∈fR C',b∈fR C:=by
  intro b hb
  obtain ⟨j,od,hj,hb⟩:=dG.1 hb
  rcases hcase j od hj with ⟨_,rfl⟩|⟨_,_,hj⟩|⟨_,rfl⟩|⟨_,rfl⟩
  ·exact dG.2 ⟨r,oc,h2,hin b (by simp at hb ⊢; rcases hb with hb|hb<;>simp [hb])⟩
  ·exact dG.2 ⟨j,od,hj,hb⟩
  ·exact dG.2 ⟨r,oc,h2,hin b (by simp at hb ⊢; simp [hb])⟩
  ·cases hb
 have hM:∀ b,b < w.heap.size->Ms c C' b->Ms c C b:=fun b _ hb=>hb.imp id (hsub b)
 refine ⟨v,C',h.regroup [r] (by simp [C',hlen]) ?_ ?_ ?_ hsub ?_⟩
 ·intro j od hj
  have hjl:=c6 hj
  by_cases e:j=r
  ·subst e
   rw [h2] at hj
   injection hj with hj
   subst hj
   exact ⟨{ oc with fp:=f1 ++ [] ++ f2 },by rw [List.getElem?_append_left (by simpa using hrC),List.getElem?_set]; simp [hrC],rfl,rfl,fun hk=>absurd (by simp) hk⟩
  ·exact ⟨od,by rw [List.getElem?_append_left (by simpa using hjl),List.getElem?_set,if_neg (fun h=>e h.symm)]; exact hj,rfl,rfl,fun _=>rfl⟩
 ·intro j oj odj hj1 hj2
  rcases hcase j odj hj2 with ⟨e,rfl⟩|⟨e,el,hj⟩|⟨e,rfl⟩|⟨e,rfl⟩
  ·subst e
   rw [List.getElem?_append_left (by simpa using hr),List.getElem?_set] at hj1
   simp [hr] at hj1
   subst hj1
   exact .inr (hset (Ms c C') _ [] hM ⟨rfl,hone,rfl⟩)
  ·rw [List.getElem?_append_left (by simp; omega),List.getElem?_set,if_neg (fun h=>e h.symm)] at hj1
   exact .inl ⟨hj1,hj⟩
  ·subst e
   rw [<- hlen,List.getElem?_append_right (by simp)] at hj1
   simp at hj1
   subst hj1
   exact .inr ⟨[v],eR (aD _) hM _ _ _ (fun _ _ _=>rfl) hrep0,rfl⟩
  ·subst e
   rw [<- hlen,List.getElem?_append_right (by simp)] at hj1
   simp at hj1
   subst hj1
   exact .inr rfl
 ·refine eE.2 ⟨fun j od hj=>?_,fun j k od oe hne hj hk b hb hb'=>?_⟩
  ·rcases hcase j od hj with ⟨_,rfl⟩|⟨_,_,hj⟩|⟨_,rfl⟩|⟨_,rfl⟩
   ·simpa using n1
   ·exact hnC.1 j od hj
   ·exact n2
   ·exact aL
  ·have other:∀ (k:Nat) (oe:OC),k≠r->C[k]?=some oe->∀ b∈f1 ++ f0 ++ f2,b ∉ oe.fp:=fun k oe hne hk b hb hb'=>hnC.2 r k oc oe (fun h=>hne h.symm) h2 hk b (hin b hb) hb'
   rcases hcase j od hj with ⟨ej,rfl⟩|⟨ej,_,hj⟩|⟨ej,rfl⟩|⟨ej,rfl⟩<;>rcases hcase k oe hk with ⟨ek,rfl⟩|⟨ek,_,hk⟩|⟨ek,rfl⟩|⟨ek,rfl⟩
   all_goals first
    | omega
    |(cases hb; done)
    |(cases hb'; done)
    | exact hnC.2 j k od oe hne hj hk b hb hb'
    | exact other k oe ek hk b (by simp at hb ⊢; first|exact .inr (.inl hb)|(rcases hb with hb|hb<;>simp [hb])) hb'
    | exact other j od ej hj b (by simp at hb' ⊢; first|exact .inr (.inl hb')|(rcases hb' with hb'|hb'<;>simp [hb'])) hb
    | exact n3 b hb (by simpa using hb')
    | exact n3 b hb' (by simpa using hb)
 ·intro q t u hq
  by_cases hql:q < s.o.length
  ·rw [List.getElem?_append_left (by simpa using hql),List.getElem?_set] at hq
   by_cases e:r=q
   ·rw [if_pos e,if_pos hr] at hq
    injection hq with hq
    exact absurd hq (aBg ob i p _ _ hp t u)
   ·rw [if_neg e] at hq; exact .inl hq
  ·rw [List.getElem?_append_right (by simp; omega)] at hq
   match hk:q - s.o.length,hq with
   | 0,hq=>simp [hk] at hq
   | 1,hq =>
    simp [hk] at hq
    obtain ⟨rfl,rfl⟩:=hq
    exact .inr ⟨{ v:=v,blk:=0,fp:=f0 },by rw [hlen,List.getElem?_append_right (by simp)]; simp,rfl⟩
   | k + 2,hq=>simp [hk] at hq
theorem f8 {s:St} (r:Nat) {ob:Ob} (i:Option Nat) (p:List Nat) {es:Nat} {xs:D} (h1:s.o[r]?=some ob) (hp:lN ob i p=some (.sl true es xs)) :
  kK s (fun v:Value=>⟨qE [r] s.e,s.o.set r (eS ob i p (.lnk (s.o.length + 1) v)) ++ [.val (.sl true es xs),.tag s.o.length v]⟩):=aGO true r i p h1 hp
theorem i7 {s:St} (r q n:Nat) {v:Value} {ob ob':Ob} (i:Option Nat) (p:List Nat) {ow:Bool} {es:Nat} {xs:D} (h1:s.o[r]?=some ob) (hp:lN ob i p=some (.lnk q v)) (hq:s.o[q]?=some (.tag n v))
  (hn:s.o[n]?=some (.val (.sl ow es xs))) (hne:r≠n) (hob:eS ob i p (.sl ow es xs)=ob') :
  gJ s ⟨qE [r,n] s.e,(s.o.set r ob').set n .dead⟩:=by
 subst hob
 intro c C a w h
 have hr:=c6 h1
 have hnl:=c6 hn
 have hlen:=h.wd.len
 obtain ⟨oc,h2⟩:∃ oc,C[r]?=some oc:=⟨C[r]'(by omega),List.getElem?_eq_getElem _⟩
 obtain ⟨on,h3⟩:∃ on,C[n]?=some on:=⟨C[n]'(by omega),List.getElem?_eq_getElem _⟩
 have hrC:=c6 h2
 have hnCl:=c6 h3
 obtain ⟨f1,f0,f2,ds,hf,hrep,hset⟩:=zZ (h.wd.obs r ob oc h1 h2) hp
 obtain ⟨rfl,_,rfl⟩:=hrep
 obtain ⟨on',h4,hv⟩:=h.wd.tags q n v hq
 rw [h3] at h4
 injection h4 with h4
 subst h4
 obtain ⟨cs,h5,h6⟩:=h.wd.obs n _ on hn h3
 have hcs:cs=[v]:=by
  have h7:=h5
  obtain ⟨_,_,_,_,_,e,_⟩:=h7
  rw [e] at h6 ⊢
  simp only [iU,List.headD_cons] at h6
  rw [<- hv,h6]
 subst hcs
 have hnC:=eE.1 h.wd.nodup
 have hocn:=hnC.1 r oc h2
 rw [hf] at hocn
 simp only [aV] at hocn
 have hnn:=hnC.1 n on h3
 have hdis:∀ b∈oc.fp,b ∉ on.fp:=fun b hb hb'=>hnC.2 r n oc on hne h2 h3 b hb hb'
 let C':List OC:=(C.set r { oc with fp:=f1 ++ on.fp ++ f2 }).set n { on with fp:=[] }
 have hcase:∀ (j:Nat) (od:OC),C'[j]?=some od->(j=n/\od={ on with fp:=[] })\/(j=r/\od={ oc with fp:=f1 ++ on.fp ++ f2 })\/(j≠r/\j≠n/\C[j]?=some od):=by
  intro j od hj
  rw [List.getElem?_set] at hj
  by_cases e:n=j
  ·rw [if_pos e,if_pos (by simpa using hnCl)] at hj
   injection hj with hj; exact .inl ⟨e.symm,hj.symm⟩
  ·rw [if_neg e,List.getElem?_set] at hj
   by_cases e2:r=j
   ·rw [if_pos e2,if_pos hrC] at hj
    injection hj with hj; exact .inr (.inl ⟨e2.symm,hj.symm⟩)
   ·rw [if_neg e2] at hj; exact .inr (.inr ⟨fun h=>e2 h.symm,fun h=>e h.symm,hj⟩)
 have hin:∀ b∈f1 ++ f2,b∈oc.fp:=fun b hb=>by rw [hf]; simpa using hb
 have hsub:∀ b∈fR C',b∈fR C:=by
  intro b hb
  obtain ⟨j,od,hj,hb⟩:=dG.1 hb
  rcases hcase j od hj with ⟨_,rfl⟩|⟨_,rfl⟩|⟨_,_,hj⟩
  ·cases hb
  ·simp only [aH] at hb
   rcases hb with (hb|hb)|hb
   ·exact dG.2 ⟨r,oc,h2,hin b (by simp [hb])⟩
   ·exact dG.2 ⟨n,on,h3,hb⟩
   ·exact dG.2 ⟨r,oc,h2,hin b (by simp [hb])⟩
  ·exact dG.2 ⟨j,od,hj,hb⟩
 have hM:∀ b,b < w.heap.size->Ms c C' b->Ms c C b:=fun b _ hb=>hb.imp id (hsub b)
 refine ⟨C',h.regroup [r,n] (by simp [C',hlen]) ?_ ?_ ?_ hsub ?_⟩
 ·intro j od hj
  have hjl:=c6 hj
  by_cases e:n=j
  ·subst e
   rw [h3] at hj; injection hj with hj; subst hj
   exact ⟨{ on with fp:=[] },by rw [List.getElem?_set]; simp [hnCl],rfl,rfl,fun hk=>absurd (by simp) hk⟩
  ·by_cases e2:r=j
   ·subst e2
    rw [h2] at hj; injection hj with hj; subst hj
    exact ⟨{ oc with fp:=f1 ++ on.fp ++ f2 },by rw [List.getElem?_set,if_neg e,List.getElem?_set]; simp [hrC],rfl,rfl,fun hk=>absurd (by simp) hk⟩
   ·exact ⟨od,by rw [List.getElem?_set,if_neg e,List.getElem?_set,if_neg e2]; exact hj,rfl,rfl,fun _=>rfl⟩
 ·intro j oj odj hj1 hj2
  rcases hcase j odj hj2 with ⟨e,rfl⟩|⟨e,rfl⟩|⟨e1,e2,hj⟩
  ·subst e
   rw [List.getElem?_set] at hj1
   simp [hnl] at hj1
   subst hj1
   exact .inr rfl
  ·subst e
   rw [List.getElem?_set,if_neg (fun h=>hne h.symm),List.getElem?_set] at hj1
   simp [hr] at hj1
   subst hj1
   exact .inr (hset (Ms c C') _ on.fp hM (eR (aD _) hM _ _ _ (fun _ _ _=>rfl) h5))
  ·rw [List.getElem?_set,if_neg (fun h=>e2 h.symm),List.getElem?_set,if_neg (fun h=>e1 h.symm)] at hj1
   exact .inl ⟨hj1,hj⟩
 ·have hnew:(f1 ++ on.fp ++ f2).Nodup:=by
   obtain ⟨m1,m2,m3⟩:=aE.1 hocn
   rw [aI]
   refine aE.2 ⟨m1,aE.2 ⟨hnn,m2,fun x hx y hy e=>?_⟩,fun x hx y hy e=>?_⟩
   ·subst e; exact hdis x (hin x (by simp [hy])) hx
   ·subst e
    rcases aH.1 hy with hy|hy
    ·exact hdis x (hin x (by simp [hx])) hy
    ·exact m3 x hx x hy rfl
  refine eE.2 ⟨fun j od hj=>?_,fun j k od oe hne' hj hk b hb hb'=>?_⟩
  ·rcases hcase j od hj with ⟨_,rfl⟩|⟨_,rfl⟩|⟨_,_,hj⟩
   ·exact aL
   ·exact hnew
   ·exact hnC.1 j od hj
  ·have other:∀ (k:Nat) (oe:OC),k≠r->k≠n->C[k]?=some oe->∀ b∈f1 ++ on.fp ++ f2,b ∉ oe.fp:=by
    intro k oe e1 e2 hk b hb hb'
    simp only [aH] at hb
    rcases hb with (hb|hb)|hb
    ·exact hnC.2 r k oc oe (fun h=>e1 h.symm) h2 hk b (hin b (by simp [hb])) hb'
    ·exact hnC.2 n k on oe (fun h=>e2 h.symm) h3 hk b hb hb'
    ·exact hnC.2 r k oc oe (fun h=>e1 h.symm) h2 hk b (hin b (by simp [hb])) hb'
   rcases hcase j od hj with ⟨ej,rfl⟩|⟨ej,rfl⟩|⟨ej,ej',hj⟩<;>rcases hcase k oe hk with ⟨ek,rfl⟩|⟨ek,rfl⟩|⟨ek,ek',hk⟩
   all_goals first
    | omega
    |(cases hb; done)
    |(cases hb'; done)
    | exact hnC.2 j k od oe hne' hj hk b hb hb'
    | exact other k oe ek ek' hk b hb hb'
    | exact other j od ej ej' hj b hb' hb
 ·intro q' t u hq'
  rw [List.getElem?_set] at hq'
  by_cases e:n=q'
  ·rw [if_pos e,if_pos (by simpa using hnl)] at hq'
   cases hq'
  ·rw [if_neg e,List.getElem?_set] at hq'
   by_cases e2:r=q'
   ·rw [if_pos e2,if_pos hr] at hq'
    injection hq' with hq'; exact absurd hq' (aBg ob i p _ _ hp t u)
   ·rw [if_neg e2] at hq'; exact .inl hq'
theorem freeze {s:St} (r:Nat) {ob ob':Ob} (i:Option Nat) (p:List Nat) {x:D} (h1:s.o[r]?=some ob) (hp:lN ob i p=some x) (hob:eS ob i p x.unown=ob') :
  gJ s ⟨qE [r] s.e,s.o.set r ob'⟩:=by
 subst hob
 intro c C a w h
 have hr:=c6 h1
 have hlen:=h.wd.len
 obtain ⟨oc,h2⟩:∃ oc,C[r]?=some oc:=⟨C[r]'(by omega),List.getElem?_eq_getElem _⟩
 have hrC:=c6 h2
 obtain ⟨f1,f0,f2,ds,hf,hrep,hset⟩:=zZ (h.wd.obs r ob oc h1 h2) hp
 have hnC:=eE.1 h.wd.nodup
 have hocn:=hnC.1 r oc h2
 rw [hf] at hocn
 obtain ⟨n1,n2,n3⟩:=aFb hocn
 have hin:∀ b∈f1 ++ f0 ++ f2,b∈oc.fp:=fun b hb=>by rw [hf]; exact hb
 let C':List OC:=C.set r { oc with fp:=f1 ++ [] ++ f2 }
 have hcase:∀ (j:Nat) (od:OC),C'[j]?=some od->(j=r/\od={ oc with fp:=f1 ++ [] ++ f2 })\/(j≠r/\C[j]?=some od):=by
  intro j od hj
  rw [List.getElem?_set] at hj
  by_cases e2:r=j
  ·rw [if_pos e2,if_pos hrC] at hj
   injection hj with hj; exact .inl ⟨e2.symm,hj.symm⟩
  ·rw [if_neg e2] at hj; exact .inr ⟨fun h=>e2 h.symm,hj⟩
 have hsub:∀ b∈fR C',b∈fR C/\b ∉ f0:=by
  intro b hb
  obtain ⟨j,od,hj,hb⟩:=dG.1 hb
  rcases hcase j od hj with ⟨_,rfl⟩|⟨e,hj⟩
  ·simp at hb
   exact ⟨dG.2 ⟨r,oc,h2,hin b (by simp; rcases hb with hb|hb<;>simp [hb])⟩,fun h=>n3 b h (by simpa using hb)⟩
  ·exact ⟨dG.2 ⟨j,od,hj,hb⟩,fun h=>hnC.2 r j oc od (fun h=>e h.symm) h2 hj b (hin b (by simp [h])) hb⟩
 have hM:∀ b,b < w.heap.size->Ms c C' b->Ms c C b:=fun b _ hb=>hb.imp id fun h=>(hsub b h).1
 refine ⟨C',h.regroup [r] (by simp [C',hlen]) ?_ ?_ ?_ (fun b hb=>(hsub b hb).1) ?_⟩
 ·intro j od hj
  by_cases e2:r=j
  ·subst e2
   rw [h2] at hj; injection hj with hj; subst hj
   exact ⟨{ oc with fp:=f1 ++ [] ++ f2 },by rw [List.getElem?_set]; simp [hrC],rfl,rfl,fun hk=>absurd (by simp) hk⟩
  ·exact ⟨od,by rw [List.getElem?_set,if_neg e2]; exact hj,rfl,rfl,fun _=>rfl⟩
 ·intro j oj odj hj1 hj2
  rcases hcase j odj hj2 with ⟨e,rfl⟩|⟨e1,hj⟩
  ·subst e
   rw [List.getElem?_set] at hj1
   simp [hr] at hj1
   subst hj1
   refine .inr (hset (Ms c C') _ [] hM (jE _ _ _ (fun b hb=>?_) (fun b hb hm=>?_) hrep))
   ·exact hb.imp id fun h=>(hsub b h).1
   ·rcases hm with hm|hm
    ·exact h.wd.apart b (dG.2 ⟨j,oc,h2,hin b (by simp [hb])⟩) hm
    ·exact (hsub b hm).2 hb
  ·rw [List.getElem?_set,if_neg (fun h=>e1 h.symm)] at hj1
   exact .inl ⟨hj1,hj⟩
 ·refine eE.2 ⟨fun j od hj=>?_,fun j k od oe hne hj hk b hb hb'=>?_⟩
  ·rcases hcase j od hj with ⟨_,rfl⟩|⟨_,hj⟩
   ·simpa using n1
   ·exact hnC.1 j od hj
  ·rcases hcase j od hj with ⟨ej,rfl⟩|⟨ej,hj⟩<;>rcases hcase k oe hk with ⟨ek,rfl⟩|⟨ek,hk⟩
   ·omega
   ·exact hnC.2 r k oc oe (fun h=>ek h.symm) h2 hk b (hin b (by simp at hb ⊢; rcases hb with hb|hb<;>simp [hb])) hb'
   ·exact hnC.2 r j oc od (fun h=>ej h.symm) h2 hj b (hin b (by simp at hb' ⊢; rcases hb' with hb'|hb'<;>simp [hb'])) hb
   ·exact hnC.2 j k od oe hne hj hk b hb hb'
 ·intro q' t u hq'
  rw [List.getElem?_set] at hq'
  by_cases e2:r=q'
  ·rw [if_pos e2,if_pos hr] at hq'
   injection hq' with hq'; exact absurd hq' (aBg ob i p _ _ hp t u)
  ·rw [if_neg e2] at hq'; exact .inl hq'
end
section
variable {P : PG} {s : St} {o : List Ob} {E : Nat -> SV} {K : SV -> Prop} {KK : SV -> St -> Prop} {KN : Nat -> Nat -> Prop}
theorem aMV {es:Nat} {x:Opd} {lo hi:Option Opd}:fO P o E (.slx es x lo hi) K=lW o es (jM E x) (wE E lo) (wE E hi) K:=propext aB
theorem aM2 {es:Nat} {x:Opd}:fO P o E (.sl0 es x) K=pJ o es (jM E x) K:=propext aB
theorem aNp {x y:Opd}:fO P o E (.shr x y) K=uI (jM E x) (jM E y) K:=propext aB
theorem aNe {n:Nat} {x:Opd}:fO P o E (.ldv n x) K=pD o n (jM E x) K:=propext aB
@[congr] theorem aQA {o o' : List Ob} {n : Nat} {x x' : SV} (ho : o = o') (hx : x = x') : pD o n x K = pD o' n x' K := by rw [ho, hx]
def onW (b:Bool) (A B:Prop):Prop:=(b=true->A)/\(b=false->B)
@[congr] theorem aWJ {b b' : Bool} {A B : Prop} (h : b = b') : onW b A B = onW b' A B := by rw [h]
theorem aOz {A B:Prop}:onW true A B=A:=propext ⟨fun h=>h.1 rfl,fun h=>⟨fun _=>h,fun h=>(by cases h)⟩⟩
theorem aLO {A B:Prop}:onW false A B=B:=propext ⟨fun h=>h.2 rfl,fun h=>⟨fun h=>(by cases h),fun _=>h⟩⟩
theorem aYB {n:Nat} {x:D}:pD o n (.d x) K=mN o (some n) (.d x) K:=propext aB
theorem aVX {n r es i off:Nat} {p:List Nat}:pD o n (.el r es i off p) K=mN o (some n) (.el r es i off p) K:=propext aB
theorem aSf {n r off:Nat} {p:List Nat}:pD o n (.ptr r off p) K=lX (uF o r) fun z=>lY (fJ p z=off) (lX (gC p z) fun y=>onW y.noOwn (fB o (some n) y K) (lY (p=[]) (lY (y.size=n) (lY (y.isStB=true) (K (.vw r)))))):=by
 apply propext
 simp only [pD,lX]
 have st:∀ y:D,(∃ ys,y=.st ys)↔y.isStB=true:=by
  intro y
  constructor
  ·rintro ⟨ys,rfl⟩; rfl
  ·intro h; cases y<;>first|exact ⟨_,rfl⟩|cases h
 constructor
 ·rintro ⟨z,hz,ho,y,hy,h1,h2⟩
  exact ⟨z,kH.2 hz,ho,y,hy,h1,fun hn=>⟨(h2 hn).1,(h2 hn).2.1,(st y).1 (h2 hn).2.2.1,(h2 hn).2.2.2⟩⟩
 ·rintro ⟨z,hz,ho,y,hy,h1,h2⟩
  exact ⟨z,kH.1 hz,ho,y,hy,h1,fun hn=>⟨(h2 hn).1,(h2 hn).2.1,(st y).2 (h2 hn).2.2.1,(h2 hn).2.2.2⟩⟩
theorem aMj {m es:Nat} {x i:Opd}:fO P o E (.iar m es x i) K=r7 m es (jM E x) (jM E i) K:=propext aB
@[congr] theorem aQL {m es : Nat} {x x' i i' : SV} (hx : x = x') (hi : i = i') : r7 m es x i K = r7 m es x' i' K := by rw [hx, hi]
theorem aXv {m es:Nat} {xs:D} {k:IntKind} {n:Int}:r7 m es (.d (.ptr (.st xs))) (.d (.int k n)) K=lY (0<=n/\n < (m:Int)) (lY (xs.pre n.toNat=n.toNat * es) (lX (xs.nth n.toNat) fun y=>K (.d (.ptr y)))):=propext aB
theorem aRR {m es r off:Nat} {p:List Nat} {k:IntKind} {n:Int}:r7 m es (.ptr r off p) (.d (.int k n)) K=lY (0<=n/\n < (m:Int)) (K (.ptr r (off + n.toNat * es) (p ++ [n.toNat]))):=propext aB
theorem aPT {neg:Bool} {ks:List Nat} {x y:Opd}:fO P o E (.sq neg ks x y) K=uM neg ks (jM E x) (jM E y) K:=propext aB
@[congr] theorem aST {neg : Bool} {ks : List Nat} {x x' y y' : SV} (hx : x = x') (hy : y = y') : uM neg ks x y K = uM neg ks x' y' K := by rw [hx, hy]
theorem aVd {neg:Bool} {ks:List Nat} {a b:D}:uM neg ks (.d (.st a)) (.d (.st b)) K=lX (wH ks a b) fun r=>K (.d (.bool (if neg then !r else r))):=propext aB
theorem aMe {x:Opd}:fO P o E (.b2s x) K=sC o (jM E x) K:=propext aB
@[congr] theorem aQB {o o' : List Ob} {es : Nat} {x x' : SV} {lo lo' hi hi' : Option SV} (ho : o = o') (hx : x = x') (hl : lo = lo') (hh : hi = hi') : lW o es x lo hi K = lW o' es x' lo' hi' K := by rw [ho, hx, hl, hh]
@[congr] theorem aQC {o o' : List Ob} {es : Nat} {x x' : SV} (ho : o = o') (hx : x = x') : pJ o es x K = pJ o' es x' K := by rw [ho, hx]
@[congr] theorem aQs {x x' y y' : SV} (hx : x = x') (hy : y = y') : uI x y K = uI x' y' K := by rw [hx, hy]
@[congr] theorem aQJ {o o' : List Ob} {x x' : SV} (ho : o = o') (hx : x = x') : sC o x K = sC o' x' K := by rw [ho, hx]
@[congr] theorem aSM {lo lo' hi hi' : Option SV} {n n' : Nat} (hl : lo = lo') (hh : hi = hi') (hn : n = n') : l7 lo hi n KN = l7 lo' hi' n' KN := by rw [hl, hh, hn]
theorem aXV {es es':Nat} {xs:D} {lo hi:Option SV}:lW o es (.d (.sl false es' xs)) lo hi K=lY (es'=es) (l7 lo hi xs.len fun a b=>K (.d (.sl false es (xs.sub a b)))):=propext aB
theorem aSx {es:Nat} {lo hi:Option SV}:lW o es .nil lo hi K=l7 lo hi 0 fun _ _=>K .nil:=propext aB
def aIb (o:List Ob) (r es:Nat):Option (Bool×D):=match l9 o r with
 | some (.sl ow es' xs)=>if es'=es then some (ow,xs) else none
 | _=>none
theorem xV {r es:Nat} {ow:Bool} {xs:D}:aIb o r es=some (ow,xs)↔o[r]?=some (.val (.sl ow es xs)):=by
 unfold aIb
 split
 ·rename_i ow' es' xs' h
  rw [jC] at h
  split
  ·rename_i he
   subst he
   rw [h]
   simp only [Option.some.injEq,Prod.mk.injEq,Ob.val.injEq,D.sl.injEq,true_and]
  ·rename_i he
   rw [h]
   constructor
   ·intro h; cases h
   ·intro h; injection h with h; injection h with h; injection h with _ h2 _; exact absurd h2 he
 ·rename_i h
  constructor
  ·intro h; cases h
  ·intro h2; exact absurd (jC.2 h2) (h _ _ _)
theorem aSH {es r:Nat} {lo hi:Option SV}:lW o es (.own r) lo hi K=lX (aIb o r es) fun x=>sF r es x.1 x.2 lo hi K:=by
 apply propext
 simp only [lW,lX]
 constructor
 ·rintro ⟨ow,xs,h,hk⟩; exact ⟨(ow,xs),xV.2 h,hk⟩
 ·rintro ⟨⟨ow,xs⟩,h,hk⟩; exact ⟨ow,xs,xV.1 h,hk⟩
def aFi (s:St) (es:Nat) (z:D) (x:SV) (KK:SV->St->Prop):Prop:=match x with
 | .win r es' lo=>es'=es/\∃ xs,s.o[r]?=some (.val (.sl true es xs))/\KK .any ⟨nY (gP r) s.e,s.o.set r (.val (.sl true es (aKl lo z xs)))⟩
 | _=>False
theorem aXA {es:Nat} {z:D} {x:Opd}:gU P s (.clr es z x) KK=aFi s es z (pM s.e x) KK:=by
 simp only [gU,aFi]
 all_goals
  generalize pM s.e x=q
  match q with
  | .d _=>rfl
  | .undef=>rfl
  | .any=>rfl
  | .nil=>rfl
  | .own _=>rfl
  | .ptr _ _ _=>rfl
  | .el _ _ _ _ _=>rfl
  | .vw _=>rfl
  | .win _ _ _=>rfl
  | .tup _=>rfl
@[congr] theorem aTF {s s' : St} {es : Nat} {z : D} {x x' : SV} (hs : s = s') (hx : x = x') : aFi s es z x KK = aFi s' es z x' KK := by rw [hs, hx]
theorem aSS {es es' r lo:Nat} {z:D}:aFi s es z (.win r es' lo) KK=lY (es'=es) (lX (aIj s.o r es) fun xs=>KK .any ⟨nY (gP r) s.e,s.o.set r (.val (.sl true es (aKl lo z xs)))⟩):=by
 apply propext
 simp only [aFi,lY,lX]
 constructor
 ·rintro ⟨h,xs,h1,hk⟩; exact ⟨h,xs,mZ.2 h1,hk⟩
 ·rintro ⟨h,xs,h1,hk⟩; exact ⟨h,xs,mZ.1 h1,hk⟩
theorem aXR {es:Nat} {x hi:Opd}:gU P s (.cut es x hi) KK=qI s es (pM s.e x) (pM s.e hi) KK:=propext aB
@[congr] theorem aQF {s s' : St} {es : Nat} {x x' hi hi' : SV} (hs : s = s') (hx : x = x') (hh : hi = hi') : qI s es x hi KK = qI s' es x' hi' KK := by rw [hs, hx, hh]
theorem aYE {es:Nat} {y:D} {hi:SV}:qI s es (.d y) hi KK=lW s.o es (.d y) none (some hi) fun sv=>KK sv s:=propext aB
theorem aS2 {es:Nat} {hi:SV}:qI s es .nil hi KK=lW s.o es .nil none (some hi) fun sv=>KK sv s:=propext aB
theorem aSw {es r:Nat} {hi:SV}:qI s es (.own r) hi KK=lX (aIb s.o r es) fun x=>r9 s r es x.1 x.2 hi KK:=by
 apply propext
 simp only [qI,lX]
 constructor
 ·rintro ⟨ow,xs,h,hk⟩; exact ⟨(ow,xs),xV.2 h,hk⟩
 ·rintro ⟨⟨ow,xs⟩,h,hk⟩; exact ⟨ow,xs,xV.1 h,hk⟩
@[congr] theorem aQI {s s' : St} {r es : Nat} {ow ow' : Bool} {xs xs' : D} {hi hi' : SV} (hs : s = s') (ho : ow = ow') (hx : xs = xs') (hh : hi = hi') : r9 s r es ow xs hi KK = r9 s' r es ow' xs' hi' KK := by rw [hs, ho, hx, hh]
theorem aYw {r es:Nat} {xs:D} {hi:SV}:r9 s r es false xs hi KK=l7 none (some hi) xs.len fun a b=>KK (.d (.sl false es (xs.sub a b))) s:=by unfold r9; rfl
theorem aYL {r es:Nat} {xs:D} {k:IntKind} {b:Int}:r9 s r es true xs (.d (.int k b)) KK=lY (0<=b/\b<=xs.len) (onV fun v=>KK (.own s.o.length) ⟨nY (gP r) s.e,s.o.set r (.val (.lnk 0 v)) ++ [.val (.sl true es (xs.takeD b.toNat))]⟩):=propext aB
@[congr] theorem aQx {r es : Nat} {ow ow' : Bool} {xs xs' : D} {lo lo' hi hi' : Option SV} (ho : ow = ow') (hx : xs = xs') (hl : lo = lo') (hh : hi = hi') : sF r es ow xs lo hi K = sF r es ow' xs' lo' hi' K := by rw [ho, hx, hl, hh]
theorem aX6 {r es:Nat} {xs:D} {lo hi:Option SV}:sF r es false xs lo hi K=l7 lo hi xs.len fun a b=>K (.d (.sl false es (xs.sub a b))):=by
 unfold sF; rfl
theorem aXc {r es:Nat} {xs:D} {k:IntKind} {a:Int}:sF r es true xs (some (.d (.int k a))) none K=lY (0<=a/\a < xs.len) (K (.win r es a.toNat)):=propext aB
theorem aWr {n:Nat}:l7 none none n KN=KN 0 n:=propext aB
theorem aXn {n:Nat} {k:IntKind} {a:Int}:l7 (some (.d (.int k a))) none n KN=lY (0<=a/\a<=n) (KN a.toNat n):=propext aB
theorem aXx {n:Nat} {k:IntKind} {b:Int}:l7 none (some (.d (.int k b))) n KN=lY (0<=b/\b<=n) (KN 0 b.toNat):=propext aB
theorem aVN {n:Nat} {k k':IntKind} {a b:Int}:l7 (some (.d (.int k a))) (some (.d (.int k' b))) n KN=lY (0<=a/\a<=b/\b<=n) (KN a.toNat b.toNat):=propext aB
theorem aX3 {es es':Nat} {ow:Bool} {xs:D}:pJ o es (.d (.sl ow es' xs)) K=K (.d (.sl true es .nil)):=propext aB
theorem aSm {es:Nat}:pJ o es .nil K=K .nil:=propext aB
theorem aQ2 {es r:Nat}:pJ o es (.own r) K=lX (lenOf o r) fun _=>K (.d (.sl true es .nil)):=by
 apply propext
 simp only [pJ,lX,lenOf]
 constructor
 ·rintro ⟨⟨es',xs,ow,h⟩,hk⟩
  exact ⟨xs.len,by rw [jC.2 h],hk⟩
 ·rintro ⟨n,h,hk⟩
  split at h
  ·rename_i ow es' xs h1
   exact ⟨⟨es',xs,ow,jC.1 h1⟩,hk⟩
  ·cases h
theorem aXW {k k':IntKind} {a n:Int}:uI (.d (.int k a)) (.d (.int k' n)) K=lY (0<=n) (K (.d (.int k (a.fdiv (2 ^ (min n.toNat k.bits)))))):=propext aB
theorem aRh:sC o .nil K=K (.d (.str [])):=propext aB
theorem aCN {ow:Bool} {r:Nat} (bs:List UInt8) (h:o[r]?=some (.val (.sl ow 1 (eK bs)))) (hk:K (.d (.str bs))):sC o (.own r) K:=⟨bs,ow,h,hk⟩
theorem aWh {s:List UInt8}:pF (.d (.str s)) none none K=K (.d (.str s)):=propext aB
theorem aXO {s:List UInt8} {k:IntKind} {a:Int}:pF (.d (.str s)) (some (.d (.int k a))) none K=lY (0<=a/\a<=s.length) (K (.d (.str (s.drop a.toNat)))):=propext and_assoc.symm
theorem aYI {s:List UInt8} {k:IntKind} {b:Int}:pF (.d (.str s)) none (some (.d (.int k b))) K=lY (0<=b/\b<=s.length) (K (.d (.str (s.take b.toNat)))):=propext and_assoc.symm
theorem aWu {s:List UInt8} {k k':IntKind} {a b:Int}:pF (.d (.str s)) (some (.d (.int k a))) (some (.d (.int k' b))) K=lY (0<=a/\a<=b/\b<=s.length) (K (.d (.str ((s.take b.toNat).drop a.toNat)))) :=
 propext ⟨fun ⟨h1,h2,h3,h4⟩=>⟨⟨h1,h2,h3⟩,h4⟩,fun ⟨⟨h1,h2,h3⟩,h4⟩=>⟨h1,h2,h3,h4⟩⟩
def aBd (g:FuncId) (xs:Option D) (K:SV->Prop):Prop:=lX xs fun xs=>K (.d (.clo g xs))
theorem aKE {g:FuncId} {caps:List Opd}:fO P o E (.clos g caps) K=aBd g (aB5 (evL E caps)) K:=by
 rw [aKO]
 apply propext
 simp only [fO,aBd,lX]
 constructor
 ·intro h
  split at h
  ·rename_i xs hx; exact ⟨xs,hx,h⟩
  ·exact h.elim
 ·rintro ⟨xs,hx,h⟩
  rw [hx]; exact h
@[congr] theorem aQQ {g : FuncId} {xs xs' : Option D} (h : xs = xs') : aBd g xs K = aBd g xs' K := by rw [h]
theorem aOT {g:FuncId} {xs:D}:aBd g (some xs) K=K (.d (.clo g xs)):=by simp [aBd,lX]
def aCT (P:PG) (o:List Ob) (f:SV) (as:List SV) (K:SV->Prop):Prop:=match f with
 | .d (.clo g xs)=>(g8 P.P g=true/\xs.caps=true)/\∃ ds rs,jH o as ds/\Fn P g (ds ++ xs.list) (fun qs=>qs=rs)/\(as.all isD=true\/rs.all D.allOwn=true)/\K (vY (rs.map D.unown))
 | _=>False
theorem aH7 {f:Opd} {args:List Opd}:fO P o E (.callV f args) K=aCT P o (jM E f) (evL E args) K:=by
 rw [aKO]
 simp only [fO,aCT]
 all_goals
  generalize jM E f=q
  match q with
  | .d (.bool _)=>rfl
  | .d (.int _ _)=>rfl
  | .d (.str _)=>rfl
  | .d (.err _)=>rfl
  | .d (.sl _ _ _)=>rfl
  | .d (.st _)=>rfl
  | .d (.ptr _)=>rfl
  | .d (.clo _ _)=>rfl
  | .d (.lnk _ _)=>rfl
  | .d .nil=>rfl
  | .d (.cons _ _)=>rfl
  | .undef=>rfl
  | .any=>rfl
  | .nil=>rfl
  | .own _=>rfl
  | .ptr _ _ _=>rfl
  | .el _ _ _ _ _=>rfl
  | .vw _=>rfl
  | .win _ _ _=>rfl
  | .tup _=>rfl
@[congr] theorem aQM {o o' : List Ob} {f f' : SV} {as as' : List SV} (ho : o = o') (hf : f = f') (h : as = as') : aCT P o f as K = aCT P o' f' as' K := by rw [ho, hf, h]
def aAn (P:PG) (s:St) (f:SV) (as:List SV) (KK:SV->St->Prop):Prop:=match f with
 | .d (.clo g xs)=>(g8 P.P g=true/\xs.caps=true)/\∃ ds R,jH s.o as ds/\Fn P g (ds ++ xs.list) R/\∀ rs,R rs->(as.all isD=true\/rs.all D.allOwn=true)/\KK (n8 (eG rs s.o).1) ⟨s.e,(eG rs s.o).2⟩
 | _=>False
theorem aTe {f:Opd} {args:List Opd}:gU P s (.callW f args) KK=aAn P s (pM s.e f) (lU s.e args) KK:=by
 simp only [gU,aAn]
 all_goals
  generalize pM s.e f=q
  match q with
  | .d (.bool _)=>rfl
  | .d (.int _ _)=>rfl
  | .d (.str _)=>rfl
  | .d (.err _)=>rfl
  | .d (.sl _ _ _)=>rfl
  | .d (.st _)=>rfl
  | .d (.ptr _)=>rfl
  | .d (.clo _ _)=>rfl
  | .d (.lnk _ _)=>rfl
  | .d .nil=>rfl
  | .d (.cons _ _)=>rfl
  | .undef=>rfl
  | .any=>rfl
  | .nil=>rfl
  | .own _=>rfl
  | .ptr _ _ _=>rfl
  | .el _ _ _ _ _=>rfl
  | .vw _=>rfl
  | .win _ _ _=>rfl
  | .tup _=>rfl
@[congr] theorem aQq {s s' : St} {f f' : SV} {as as' : List SV} (hs : s = s') (hf : f = f') (h : as = as') : aAn P s f as KK = aAn P s' f' as' KK := by rw [hs, hf, h]
theorem xS {g:FuncId} {xs:D} {as:List SV} {ds rs:List D} (hf:Fn P g (ds ++ xs.list) (fun qs=>qs=rs)) (he:g8 P.P g=true) (hc:xs.caps=true) (ha:dH s.o as=some ds) (hd:(as.all isD || rs.all D.allOwn)=true) (hk:KK (n8 (eG rs s.o).1) ⟨s.e,(eG rs s.o).2⟩):aAn P s (.d (.clo g xs)) as KK :=
 ⟨⟨he,hc⟩,ds,_,oC ha,hf,fun qs h=>by subst h; exact ⟨by simpa using hd,hk⟩⟩
theorem aP8 {es es' bytes:Nat} {ys:D} {kr:List Nat} {K:SV->List Ob->List Nat->Option Nat->Prop}:tU es bytes o (.d (.sl true es' .nil)) ys kr K=lY (es'=es) (lY (ys.len * bytes<=140737488355328/\ys.len<=9223372036854775807) (K (.own o.length) (o ++ [.val (.sl true es ys)]) kr none)):=propext aB
theorem rA {α:Type} {f:α->D} (xs:List α) (a b:Nat):(dl f xs).sub a b=dl f ((xs.take b).drop a):=by
 unfold D.sub dl
 rw [jT,aBV,List.map_drop,List.map_take]
theorem aFF (bs:List UInt8):eK bs=dl (fun b:UInt8=>D.int .u8 (b.toNat:Int)) bs:=by
 induction bs with
 | nil=>rfl
 | cons b bs ih=>simp only [eK,ih]; rfl
end
section
def aJL:D->Option Value
 | .int k n=>some (.int k n)
 | .bool b=>some (.bool b)
 | .str s=>some (.string ⟨s.toArray⟩)
 | _=>none
def u5:List D->Option (List Value)
 | []=>some []
 | d :: ds=>match aJL d,u5 ds with
  | some v,some vs=>some (v :: vs)
  | _,_=>none
theorem aDz {w:World} {M:Nat->Prop} {d:D} {v:Value} (h:aJL d=some v):(∀ cs fp,d.rep w M cs fp->iU d cs=v/\fp=[])/\d.rep w M [v] []/\iU d [v]=v:=by
 cases d<;>simp only [aJL] at h<;>first
  |(injection h with h; subst h; exact ⟨fun cs fp hr=>⟨by rw [hr.1]; rfl,hr.2⟩,⟨rfl,rfl⟩,rfl⟩)
  | cases h
theorem aD2 {w:World} {M:Nat->Prop}:∀ {ds:List D} {vs us:List Value},u5 ds=some vs->fH w M ds us []->us=vs
 | [],vs,us,h,hr=>by injection h with h; rw [hr.1,<-h]
 | d :: ds,vs,us,h,hr=>by
  obtain ⟨cs,us',f1,f2,rfl,hf,h1,h2⟩:=hr
  obtain ⟨rfl,rfl⟩:=List.append_eq_nil_iff.1 hf.symm
  unfold u5 at h
  split at h
  ·rename_i v vs' hv hvs
   injection h with h
   rw [<- h,((aDz hv).1 cs [] h1).1,aD2 hvs h2]
  ·cases h
theorem wZ {w:World} {M:Nat->Prop}:∀ {rs:List D} {us:List Value},u5 rs=some us->fH w M rs us []
 | [],us,h=>by injection h with h; exact ⟨h.symm,rfl⟩
 | d :: ds,us,h=>by
  unfold u5 at h
  split at h
  ·rename_i v vs' hv hvs
   injection h with h
   obtain ⟨_,h2,h3⟩:=aDz (w:=w) (M:=M) hv
   exact ⟨[v],vs',[],[],by rw [<- h,h3],rfl,h2,wZ hvs⟩
  ·cases h
theorem aKQ {P:PG} {f:FuncId} {ds rs:List D} {vs us:List Value} (hd:u5 ds=some vs) (hr:u5 rs=some us) (h:∀ w,P.F w->Calls P.P f vs.toArray w fun e w'=>e=.returned (r5 us)/\mO w w'):Fn P f ds (fun qs=>qs=rs):=by
 intro M vs' w hM hg hvs
 rw [aD2 hd hvs]
 refine (h w hg.fact).mono ?_
 rintro e w' ⟨rfl,hx⟩
 exact ⟨rs,us,[],rfl,rfl,wZ hr,aL,(fun b hb=>by cases hb),hx⟩
theorem mO.drewN {w:World} (n:Nat):mO w (w.drewN n):=⟨rfl,rfl,rfl,aD _,fun _ _=>rfl⟩
end
theorem fH.unown {w:World} {M M':Nat->Prop}:∀ (ds:List D) (vs:List Value) (fp:List Nat),(∀ b,M' b->M b)->(∀ b∈fp,¬ M' b)->fH w M ds vs fp->fH w M' (ds.map D.unown) vs []
 | [],vs,fp,h1,h2,h=>⟨h.1,rfl⟩
 | d :: ds,vs,fp,h1,h2,h=>by
  obtain ⟨cs,us,f1,f2,rfl,rfl,h3,h4⟩:=h
  exact ⟨cs,us,[],[],by rw [oR],rfl,jE d cs f1 h1 (fun b hb=>h2 b (List.mem_append_left _ hb)) h3,fH.unown ds us f2 h1 (fun b hb=>h2 b (List.mem_append_right _ hb)) h4⟩
theorem fE {P:PG} {f:FuncId} {ds rs:List D} (h:Fn P f ds (fun qs=>qs=rs)):Fn P f ds (fun qs=>qs=rs.map D.unown):=by
 intro M vs w hM hG hv
 refine Calls.mono (h M vs w hM hG hv) ?_
 rintro e w' ⟨rs',us,fp,he,rfl,hr,hn,hb,hx⟩
 exact ⟨_,us,[],he,rfl,fH.unown _ _ _ (fun b h=>.inl (h.resolve_right (by simp))) (fun b hb' h=>by
  rcases h with h|h
  ·have:=hM b h; have:=hb b hb'; omega
  ·simp at h) hr,by simp,by simp,hx⟩
def aK6 (s:St) (x:SV) (KK:SV->St->Prop):Prop:=match x with
 | .d (.str bs)=>KK (.own s.o.length) ⟨s.e,s.o ++ [.val (.sl true 1 (eK bs))]⟩
 | _=>False
theorem aYo {P:PG} {s:St} {x:Opd} {KK:SV->St->Prop}:gU P s (.s2b x) KK=aK6 s (pM s.e x) KK:=propext aB
theorem aXo {s:St} {bs:List UInt8} {KK:SV->St->Prop}:aK6 s (.d (.str bs)) KK=KK (.own s.o.length) ⟨s.e,s.o ++ [.val (.sl true 1 (eK bs))]⟩:=propext aB
@[congr] theorem aUR {s s' : St} {x x' : SV} {KK : SV -> St -> Prop} (hs : s = s') (hx : x = x') : aK6 s x KK = aK6 s' x' KK := by rw [hs, hx]
theorem aVA {P:PG} {s:St} {neg:Bool} {x:Opd} {KK:SV->St->Prop}:gU P s (.snil neg x) KK=mW s.o neg (pM s.e x) fun sv=>KK sv s:=propext aB
theorem aN6 {o:List Ob} {neg:Bool} {K:SV->Prop}:mW o neg .nil K=K (.d (.bool (!neg))):=propext aB
theorem aWe {o:List Ob} {neg ow:Bool} {es:Nat} {xs:D} {K:SV->Prop}:mW o neg (.d (.sl ow es xs)) K=aHS neg xs.len K:=propext aB
theorem aNU {o:List Ob} {neg:Bool} {r:Nat} {K:SV->Prop}:mW o neg (.own r) K=lX (lenOf o r) fun n=>aHS neg n K:=by
 apply propext
 simp only [mW,lX,lenOf]
 constructor
 ·rintro ⟨es,xs,ow,h,hk⟩
  exact ⟨xs.len,by rw [jC.2 h],hk⟩
 ·rintro ⟨n,h,hk⟩
  split at h
  ·rename_i ow es xs h1
   injection h with h
   subst h
   exact ⟨es,xs,ow,jC.1 h1,hk⟩
  ·cases h
theorem aJB {neg:Bool} {n:Nat} {K:SV->Prop} (h1:n=0->K (.d (.bool (!neg)))) (h2:K (.d (.bool neg))):aHS neg n K:=⟨h1,h2⟩
@[congr] theorem aOB {o o' : List Ob} {neg : Bool} {x x' : SV} {K : SV -> Prop} (ho : o = o') (hx : x = x') : mW o neg x K = mW o' neg x' K := by rw [ho, hx]
@[congr] theorem aWg {neg : Bool} {n n' : Nat} {K : SV -> Prop} (h : n = n') : aHS neg n K = aHS neg n' K := by rw [h]
def aNP (o:List Ob) (r:Nat):Option (List (List UInt8×Int)):=match o[r]? with
 | some (.mp kvs)=>some kvs
 | _=>none
theorem aHB {o:List Ob} {r:Nat} {kvs:List (List UInt8×Int)}:aNP o r=some kvs↔o[r]?=some (.mp kvs):=by
 unfold aNP; split
 ·rename_i h; rw [h]; simp
 ·rename_i h; constructor
  ·intro h; cases h
  ·intro h2; exact absurd h2 (h _)
theorem aYb {P:PG} {s:St} {KK:SV->St->Prop}:gU P s .mkm KK=KK (.own s.o.length) ⟨s.e,s.o ++ [.mp []]⟩:=propext aB
theorem aXG {P:PG} {s:St} {m k v:Opd} {KK:SV->St->Prop}:gU P s (.ins m k v) KK=vG s (pM s.e m) (pM s.e k) (pM s.e v) KK:=propext aB
theorem aXU {P:PG} {s:St} {m k:Opd} {KK:SV->St->Prop}:gU P s (.lkp m k) KK=uY s (pM s.e m) (pM s.e k) KK:=propext aB
@[congr] theorem aQr {s s' : St} {m m' k k' v v' : SV} {KK : SV -> St -> Prop} (h : s = s') (h1 : m = m') (h2 : k = k') (h3 : v = v') : vG s m k v KK = vG s' m' k' v' KK := by rw [h, h1, h2, h3]
@[congr] theorem aQG {s s' : St} {m m' k k' : SV} {KK : SV -> St -> Prop} (h : s = s') (h1 : m = m') (h2 : k = k') : uY s m k KK = uY s' m' k' KK := by rw [h, h1, h2]
theorem aSF {s:St} {r:Nat} {b:List UInt8} {n:Int} {KK:SV->St->Prop}:vG s (.own r) (.d (.str b)) (.d (.int .i64 n)) KK=lX (aNP s.o r) fun kvs=>lY (lkp kvs b=none) (KK .undef ⟨nY (gP r) s.e,s.o.set r (.mp (kvs ++ [(b,n)]))⟩):=by
 apply propext
 simp only [vG,lX,lY,aHB]
theorem aSp {s:St} {r:Nat} {b:List UInt8} {KK:SV->St->Prop}:uY s (.own r) (.d (.str b)) KK=lX (aNP s.o r) fun kvs=>KK (.tup [.d (.int .i64 ((lkp kvs b).getD 0)),.d (.bool (lkp kvs b).isSome)]) s:=by
 apply propext
 simp only [uY,lX,aHB]
end Go.Pe
set_option maxRecDepth 100000
namespace Go.Pe
open Go Go.RowKit
def wA0:=aA @aKq (aA @aNb (aA @aL0 (aA @aNa (aA @aJO (aA @aId (aA @aJ4 (aA @aKx (aA @aIO (aA @aQ5 (aA @aS3 (aA @aR0 (aA @aWQ (aA @aXQ (aA @aYD (aA @aLM (aA @aO4 (aA @aRH (aA @aKH (aA @aHK (aA @aNZ (aA @aOV (aA @aQj (aA @aS1 (aA @aQ0 (aA @aLZ (aA @aJU (aA @aIz (aA @aGj (aA @aMr (aA @aPd (aA @aOZ (aA @aPF (aA @aM8 (aA @aOM (aA @aOu (aA @aO9 (aA @aO3 (aA @aM1 (@aNs)))))))))))))))))))))))))))))))))))))))
def wA1:=aA @aJx (aA @aMD (aA @aOA (aA @aIh (aA @aKv (aA @aSt (aA @aQ9 (aA @aRk (aA @aTh (aA @aTg (aA @aSK (aA @aVq (aA @aR6 (aA @aSX (aA @aRj (aA @aSW (aA @aS9 (aA @aRT (aA @aSn (aA @aRc (aA @aSc (aA @aRD (aA @aRp (aA @aSI (aA @aRw (aA @aVv (aA @aWi (aA @aVf (aA @aWo (aA @aWc (aA @aWd (aA @aRC (aA @aXz (aA @aSN (aA @aVy (aA @aQO (aA @aRW (aA @aWW (aA @aY3 (@aVQ)))))))))))))))))))))))))))))))))))))))
def wA2:=aA @aUY (aA @aRP (aA @aPL (aA @aVs (aA @aXJ (aA @aWL (aA @aYZ (aA @aV8 (aA @aXE (aA @aYV (aA @aVC (aA @aXh (aA @aU7 (aA @aWp (aA @aN0 (aA @aTn (aA @aMK (aA @aNL (aA @aYn (aA @aSY (aA @aY4 (aA @aYu (aA @aY9 (aA @aYg (aA @aSb (aA @aQP (aA @aY5 (aA @aVx (aA @aL1 (aA @zY (aA @aPK (aA @aNK (aA @aVL (aA @aOr (aA @aOP (aA @aSi (aA @aRK (aA @aXY (aA @aQ6 (@aWO)))))))))))))))))))))))))))))))))))))))
def wA3:=aA @aQn (aA @aXt (aA @aXk (aA @aRJ (aA @aWj (aA @aV4 (aA @aOg (aA @aWx (aA @aO2 (aA @aVB (aA @aWw (aA @aVW (aA @aP9 (aA @cM (aA @aUW (aA @aYT (aA @aY1 (aA @aU1 (aA @aMV (aA @aM2 (aA @aNp (aA @aMe (aA @aXV (aA @aSx (aA @aWr (aA @aXn (aA @aXx (aA @aVN (aA @aX3 (aA @aSm (aA @aQ2 (aA @aXW (aA @aRh (aA @aWh (aA @aXO (aA @aYI (aA @aWu (aA @aKE (aA @aOT (@aH7)))))))))))))))))))))))))))))))))))))))
def wA4:=aA @aTe (aA @aP8 (aA @aMH (aA @aKi (aA @aLj (aA @aIw (aA @aHn (aA @aIc (aA @aRq (aA @aRv (aA @aSV (aA @aVA (aA @aN6 (aA @aWe (aA @aNU (aA @aSH (aA @aX6 (aA @aXc (aA @aXA (aA @aSS (aA @aXR (aA @aYE (aA @aS2 (aA @aSw (aA @aYw (aA @aYL (aA @aPT (aA @aVd (aA @aYo (aA @aXo (aA @aMj (aA @aXv (aA @aRR (aA @aNe (aA @aYB (aA @aVX (aA @aSf (aA @aOz (aA @aLO (@aYb)))))))))))))))))))))))))))))))))))))))
def wA5:=aA @aXG (aA @aXU (aA @aSF (@aSp)))
def wA:=aA @wA0 (aA @wA1 (aA @wA2 (aA @wA3 (aA @wA4 (@wA5)))))
def wC0:=aA @aB4.eq_1 (aA @aB4.eq_2 (aA @aB4.eq_3 (aA @aB4.eq_4 (aA @aB4.eq_5 (aA @look.eq_1 (aA @look.eq_2 (aA @m7.eq_1 (@m7.eq_2))))))))
def wC:=@wC0
def wB0:=aA @aPs (aA @aSA (aA @aPu (aA @aSG (aA @aRg (aA @aVk (aA @aU9 (aA @aRs (aA @aRl (aA @aY (aA @Nat.add_zero (aA @Bool.false_eq_true (aA @Bool.true_eq_false (aA @Bool.not_true (aA @Bool.not_false (aA @Bool.and_true (aA @Bool.true_and (aA @Bool.and_false (aA @Bool.false_and (aA @Bool.or_false (aA @Bool.false_or (aA @Bool.or_true (aA @aP (aA @true_and (aA @and_true (aA @SV.own.injEq (aA @SV.ptr.injEq (aA @not_false_eq_true (aA @not_true_eq_false (aA @decide_true (aA @decide_false (aA @Option.some.injEq.{0} (aA @List.getElem?_cons_zero.{0} (aA @List.getElem?_cons_succ.{0} (aA @List.getElem?_nil.{0} (aA @aO.{0} (aA @List.set_cons_succ.{0} (aA @List.length_cons.{0} (aA @List.length_nil.{0} (@List.length_append.{0})))))))))))))))))))))))))))))))))))))))
def wB1:=aA @List.cons_append.{0} (aA @List.nil_append.{0} (aA @aV.{0} (aA @aN.{0} (aA @List.any_nil.{0} (aA @List.all_cons.{0} (aA @List.all_nil.{0} (aA @List.map_cons.{0,0} (aA @List.map_nil.{0,0} (aA @if_true.{0} (aA @if_false.{0} (aA @beq_self_eq_true.{0} (aA @ne_eq.{0} (aA @eq_self.{0} (aA @beq_iff_eq.{0} (aA @aI.{0} (aA @aW.{0,0} (aA @Option.map_none.{0,0} (aA @List.contains_nil.{0} (aA @aQ.{0} (aA @evL.eq_1 (aA @evL.eq_2 (aA @lU.eq_1 (aA @lU.eq_2 (aA @nN.eq_1 (aA @nN.eq_2 (aA @iZ.eq_1 (aA @i8.eq_1 (aA @jM.eq_1 (aA @jM.eq_2 (aA @pM.eq_1 (aA @pM.eq_2 (aA @wE.eq_1 (aA @wE.eq_2 (aA @mB.eq_1 (aA @mB.eq_2 (aA @nW.eq_1 (aA @nW.eq_2 (aA @uF.eq_1 (@l9.eq_1)))))))))))))))))))))))))))))))))))))))
def wB2:=aA @aIj.eq_1 (aA @aIb.eq_1 (aA @aLs.eq_1 (aA @elS.eq_1 (aA @elS.eq_2 (aA @aHH.eq_1 (aA @lenOf.eq_1 (aA @gN.eq_1 (aA @gN.eq_2 (aA @nY.eq_1 (aA @nY.eq_2 (aA @wX.eq_1 (aA @wX.eq_2 (aA @gQ.eq_1 (aA @gQ.eq_2 (aA @k0.eq_1 (aA @k0.eq_2 (aA @k0.eq_3 (aA @k0.eq_4 (aA @k0.eq_5 (aA @k0.eq_6 (aA @gP.eq_1 (aA @gP.eq_2 (aA @gP.eq_3 (aA @eG.eq_1 (aA @eG.eq_2 (aA @n8.eq_1 (aA @n8.eq_2 (aA @vY.eq_1 (aA @vY.eq_2 (aA @D.pre.eq_1 (aA @D.pre.eq_2 (aA @D.nth.eq_1 (aA @D.nth.eq_2 (aA @D.nth.eq_3 (aA @D.size.eq_1 (aA @D.size.eq_2 (aA @D.size.eq_3 (aA @D.size.eq_4 (@D.len.eq_1)))))))))))))))))))))))))))))))))))))))
def wB3:=aA @D.len.eq_2 (aA @gC.eq_1 (aA @gC.eq_2 (aA @gC.eq_3 (aA @fJ.eq_1 (aA @fJ.eq_2 (aA @fJ.eq_3 (aA @j8.eq_1 (aA @j8.eq_2 (aA @j8.eq_3 (aA @D.setN.eq_1 (aA @D.setN.eq_2 (aA @D.setN.eq_3 (aA @D.noOwn.eq_1 (aA @D.noOwn.eq_2 (aA @D.noOwn.eq_3 (aA @D.noOwn.eq_4 (aA @D.noOwn.eq_5 (aA @D.noOwn.eq_6 (aA @D.unown.eq_1 (aA @D.unown.eq_2 (aA @D.unown.eq_3 (aA @D.unown.eq_4 (aA @D.unown.eq_5 (aA @D.unown.eq_6 (aA @D.app.eq_1 (aA @D.app.eq_2 (aA @kN.eq_1 (aA @kN.eq_2 (aA @List.replicate.eq_1.{0} (aA @List.replicate.eq_2.{0} (aA @aLu.eq_1 (aA @aNP.eq_1 (aA @sO.eq_1 (aA @sO.eq_2 (aA @sO.eq_3 (aA @unT.eq_1 (aA @unT.eq_2 (aA @aIX.eq_1 (@aIX.eq_2)))))))))))))))))))))))))))))))))))))))
def wB4:=aA @aB5.eq_1 (aA @aB5.eq_2 (aA @aB5.eq_3 (aA @D.isOne.eq_1 (aA @D.isOne.eq_2 (aA @D.isOne.eq_3 (aA @D.isOne.eq_4 (aA @D.caps.eq_1 (aA @D.caps.eq_2 (aA @D.caps.eq_3 (aA @D.list.eq_1 (aA @D.list.eq_2 (aA @qE.eq_1 (aA @qE.eq_2 (aA @cY.eq_1 (aA @cY.eq_2 (aA @dD.eq_1 (aA @dD.eq_2 (aA @dD.eq_3 (aA @dD.eq_4 (aA @dD.eq_5 (aA @dD.eq_6 (aA @dD.eq_7 (aA @dD.eq_8 (aA @dD.eq_9 (aA @xD.eq_1 (aA @aCZ.eq_1 (aA @aCZ.eq_2 (aA @zW.eq_1 (aA @zW.eq_2 (aA @zW.eq_3 (aA @wH.eq_1 (aA @wH.eq_2 (aA @wH.eq_3 (aA @wH.eq_4 (aA @wH.eq_5 (aA @tZ.eq_1 (aA @tZ.eq_2 (aA @tG.eq_1 (@tG.eq_2)))))))))))))))))))))))))))))))))))))))
def wB5:=aA @aBo.eq_1 (aA @sL.eq_1 (aA @sL.eq_2 (aA @aRu.eq_1 (aA @aRu.eq_2 (aA @yL.eq_1 (aA @yL.eq_2 (aA @yL.eq_3 (aA @yL.eq_4 (aA @eqO.eq_1 (aA @eqO.eq_2 (aA @aCs.eq_1 (aA @aCs.eq_2 (aA @zK.eq_1 (aA @vM.eq_1 (aA @vM.eq_2 (@vM.eq_3))))))))))))))))
def wB:=aA @wB0 (aA @wB1 (aA @wB2 (aA @wB3 (aA @wB4 (@wB5)))))
theorem dU {P:PG} {s:St} {Q:Exit->St->Prop} {x:MC} (n:Nat) (S:Nat->St) (inv:Nat->Prop) (h0:gJ s (S 0)) (hi:inv 0)
  (step:∀ i,i < n->inv i->decide ((i:Int) < (n:Int))=true->(0:Int)<=(i:Int)->e8 P x (S i) (sN (fun s'=>∃ y,gJ s' (S y)/\(y<=n/\inv y)/\n - y < n - i) Q))
  (done:inv n->decide ((n:Int) < (n:Int))=false->e8 P x (S n) (sN (fun s'=>∃ y,gJ s' (S y)/\(y<=n/\inv y)/\n - y < n - n) Q)):e8 P (.loop x) s Q:=by
 refine eM S (fun i=>i<=n/\inv i) (fun i=>n - i) 0 h0 ⟨aS _,hi⟩ ?_
 rintro i ⟨h1,h2⟩
 by_cases h:i < n
 ·exact step i h h2 (decide_eq_true (by omega)) (by omega)
 ·have e:i=n:=by omega
  subst e
  exact done h2 (decide_eq_false (by omega))
theorem fZ {s':St} {n i:Nat} {S:Nat->St} {inv:Nat->Prop} (hw:gJ s' (S (i + 1))) (hi:i < n) (h:inv (i + 1)):∃ y,gJ s' (S y)/\(y<=n/\inv y)/\n - y < n - i:=⟨i + 1,hw,⟨by omega,h⟩,by omega⟩
theorem sI {P:PG} {s:St} {Q:Exit->St->Prop} {x:MC} (ts:List (Nat×Nat)) (n:Nat) (S:Nat->St) (inv:Nat->Prop) (hn:aHJ ts s) (h0:gJ (aPE ts s) (S 0)) (hi:inv 0)
  (step:∀ i,i < n->inv i->decide ((i:Int) < (n:Int))=true->(0:Int)<=(i:Int)->e8 P x (S i) (sN (fun s'=>∃ y,gJ s' (S y)/\(y<=n/\inv y)/\n - y < n - i) Q))
  (done:inv n->decide ((n:Int) < (n:Int))=false->e8 P x (S n) (sN (fun s'=>∃ y,gJ s' (S y)/\(y<=n/\inv y)/\n - y < n - n) Q)):e8 P (.loop x) s Q:=by
 refine aED ts S (fun i=>i<=n/\inv i) (fun i=>n - i) 0 hn h0 ⟨aS _,hi⟩ ?_
 rintro i ⟨h1,h2⟩
 by_cases h:i < n
 ·exact step i h h2 (decide_eq_true (by omega)) (by omega)
 ·have e:i=n:=by omega
  subst e
  exact done h2 (decide_eq_false (by omega))
theorem aA5 {p:Nat->Prop} {i:Nat} (h:∀ j,j < i->p j) (hi:p i):∀ j,j < i + 1->p j:=fun j hj=>by
 by_cases e:j=i
 ·subst e; exact hi
 ·exact h j (by omega)
def cP (q:Nat) (y:D):SV->SV
 | .ptr r off p=>if r=q then (if off=0/\p=[] then .d (.ptr y) else .any) else .ptr r off p
 | s=>if gQ q s then .any else s
def cQ (q:Nat) (y:D):jP->jP
 | []=>[]
 |(t,s) :: e=>(t,cP q y s) :: cQ q y e
theorem aDq (q:Nat) (y:D):∀ (e:jP) (t:Nat),look (cQ q y e) t=cP q y (look e t)
 | [],t=>by simp [cQ,look,cP,gQ,k0]
 |(k,s) :: e,t=>by
  simp only [cQ,look]
  by_cases h:k=t
  ·simp only [h,if_true]
  ·simp only [h,if_false]; exact aDq q y e t
theorem iV {s:St} (q:Nat) {x:D} (hq:s.o[q]?=some (.box x)):gJ s ⟨cQ q x.unown s.e,s.o.set q .dead⟩:=by
 intro c C a w hr
 focus
  have hql:=c6 hq
  have hlen:=hr.wd.len
  obtain ⟨oc,hC⟩:∃ oc,C[q]?=some oc:=⟨C[q]'(by omega),List.getElem?_eq_getElem _⟩
  have hCl:=c6 hC
  have hnC:=eE.1 hr.wd.nodup
  let C':=C.set q { oc with fp:=[] }
  have get:∀ (j:Nat) (od:OC),C'[j]?=some od->(j=q/\od={ oc with fp:=[] })\/(j≠q/\C[j]?=some od):=by
   intro j od hj
   rw [List.getElem?_set] at hj
   by_cases e:q=j
   ·rw [if_pos e,if_pos (by omega)] at hj; injection hj with hj; exact .inl ⟨e.symm,hj.symm⟩
   ·rw [if_neg e] at hj; exact .inr ⟨fun h=>e h.symm,hj⟩
  have hsub:∀ b∈fR C',b∈fR C/\b ∉ oc.fp:=by
   intro b hb
   obtain ⟨j,od,hj,hb'⟩:=dG.1 hb
   rcases get j od hj with ⟨_,rfl⟩|⟨hne,hj⟩
   ·cases hb'
   ·exact ⟨dG.2 ⟨j,od,hj,hb'⟩,fun h=>hnC.2 j q od oc hne hj hC b hb' h⟩
  have hmem:∀ b∈fR C',(b∈fR C\/w.heap.size<=b)/\b < w.heap.size:=fun b hb=>⟨.inl (hsub b hb).1,hr.wd.lt b (hsub b hb).1⟩
  have hg:=aZH (mO.refl w) (fun _=>False)
  have hX:∀ b,(fun _=>False:Nat->Prop) b->b∈fR C:=fun b hb=>hb.elim
  have hwd:RelW c (s.o.set q .dead) C' w:=by
   have hold:∀ (p r:Nat) (v:Value),(s.o.set q .dead)[p]?=some (.tag r v)->s.o[p]?=some (.tag r v):=by
    intro p r v hp
    rw [List.getElem?_set] at hp
    by_cases e:q=p
    ·rw [if_pos e] at hp
     split at hp
     ·injection hp with hp; cases hp
     ·cases hp
    ·rw [if_neg e] at hp; exact hp
   refine hr.wd.upd hg hX (by simp [C',hlen]) ?_ ?_ hmem (fun p r v hp=>.inl (hold p r v hp)) (fun p r v od _ h=>by
    by_cases e:q=r
    ·subst e
     rw [hC] at h
     injection h with h
     subst h
     exact ⟨{ oc with fp:=[] },by rw [List.getElem?_set]; simp [hCl],rfl⟩
    ·exact ⟨od,by rw [List.getElem?_set,if_neg e]; exact h,rfl⟩)
   ·intro j ob ocj h1 h2
    rcases get j ocj h2 with ⟨e,rfl⟩|⟨hne,h3⟩
    ·rw [e,List.getElem?_set,if_pos rfl,if_pos hql] at h1
     injection h1 with h1
     subst h1
     exact .inr rfl
    ·rw [List.getElem?_set,if_neg (fun h=>hne h.symm)] at h1
     exact .inl ⟨h1,h3,fun _ _ h=>h⟩
   ·refine eE.2 ⟨fun j od hj=>?_,fun j i od oe hne hj hi b hb hb'=>?_⟩
    ·rcases get j od hj with ⟨_,rfl⟩|⟨_,hj⟩
     ·exact aL
     ·exact hnC.1 j od hj
    ·rcases get j od hj with ⟨_,rfl⟩|⟨_,hj⟩
     ·cases hb
     ·rcases get i oe hi with ⟨_,rfl⟩|⟨_,hi⟩
      ·cases hb'
      ·exact hnC.2 j i od oe hne hj hi b hb hb'
  refine ⟨C',hr.tmps,hr.defers,fun t=>?_,hwd,hr.fix⟩
  simp only [aDq]
  have hv:=hr.env t
  generalize look s.e t=sv at *
  generalize a.tmps.getD t Go.undef=v at *
  have other:∀ sv:SV,(∀ xs,sv≠.tup xs)->k0 q sv=false->dX w (Ms c C) C sv v->dX w (Ms c C') C' sv v:=by
   intro sv hn h0 hv
   refine uB (iG.upd (X:=fun _=>False) hg hX hmem ?_ ?_ ?_)
   ·intro r od h1 h2
    have hne:r≠q:=fun e=>by rw [e,h0] at h1; cases h1
    exact ⟨od,by rw [List.getElem?_set,if_neg (fun h=>hne h.symm)]; exact h2,rfl,rfl⟩
   ·intro r od od' h1 h2 h3 h4
    subst h1
    have hne:r≠q:=fun e=>by rw [e] at h0; simp [k0] at h0
    rw [List.getElem?_set,if_neg (fun h=>hne h.symm),h2] at h4
    injection h4 with h4
    subst h4
    exact ⟨h3,fun h=>h⟩
   ·cases sv<;>first|exact hv|exact absurd rfl (hn _)
  cases sv with
  | ptr r off p =>
   simp only [cP]
   by_cases e:r=q
   ·subst e
    rw [if_pos rfl]
    by_cases e2:off=0/\p=[]
    ·rw [if_pos e2]
     obtain ⟨rfl,rfl⟩:=e2
     obtain ⟨oc1,h1,h2⟩:=hv
     rw [hC] at h1
     injection h1 with h1
     subst h1
     obtain ⟨cs,fps,h3,h4,h5⟩:=hr.wd.obs r _ oc hq hC
     subst h2
     have hblk:¬ Ms c C' oc.blk:=by
      rintro (hm|hm)
      ·exact hr.wd.apart oc.blk (dG.2 ⟨r,oc,hC,by rw [h5]; simp⟩) hm
      ·exact (hsub oc.blk hm).2 (by rw [h5]; simp)
     refine pL (jE _ _ _ ?_ ?_ h4) (kR.of_row h3 hblk)
     ·intro b hb
      rcases hb with hb|hb
      ·exact .inl hb
      ·exact .inr (hsub b hb).1
     ·intro b hb hm
      rcases hm with hm|hm
      ·exact hr.wd.apart b (dG.2 ⟨r,oc,hC,by rw [h5]; simp [hb]⟩) hm
      ·exact (hsub b hm).2 (by rw [h5]; simp [hb])
    ·rw [if_neg e2]; trivial
   ·rw [if_neg e]
    exact other _ (fun xs h=>by cases h) (by simp [k0,e]) hv
  | tup xs =>
   simp only [cP]
   split
   ·trivial
   ·rename_i h0
    obtain ⟨vs,k1,k2,k3⟩:=hv
    refine ⟨vs,k1,k2,fun i sx u hsi hu=>?_⟩
    have hx0:k0 q sx=false:=by
     simp only [gQ,aT,not_exists,not_and,Bool.not_eq_true] at h0
     exact h0 sx (aM hsi)
    refine iG.upd (X:=fun _=>False) hg hX hmem ?_ ?_ (k3 i sx u hsi hu)
    ·intro r od h1 h2
     have hne:r≠q:=fun e=>by rw [e,hx0] at h1; cases h1
     exact ⟨od,by rw [List.getElem?_set,if_neg (fun h=>hne h.symm)]; exact h2,rfl,rfl⟩
    ·intro r od od' h1 h2 h3 h4
     subst h1
     have hne:r≠q:=fun e=>by rw [e] at hx0; simp [k0] at hx0
     rw [List.getElem?_set,if_neg (fun h=>hne h.symm),h2] at h4
     injection h4 with h4
     subst h4
     exact ⟨h3,fun h=>h⟩
  | any=>trivial
  | undef=>exact hv
  | d y=>exact other _ (fun xs h=>by cases h) rfl hv
  | nil=>exact hv
  | own r =>
   simp only [cP]
   split
   ·trivial
   ·rename_i h0; exact other _ (fun xs h=>by cases h) (by simpa [gQ] using h0) hv
  | el r es i off p =>
   simp only [cP]
   split
   ·trivial
   ·rename_i h0; exact other _ (fun xs h=>by cases h) (by simpa [gQ] using h0) hv
  | vw r =>
   simp only [cP]
   split
   ·trivial
   ·rename_i h0; exact other _ (fun xs h=>by cases h) (by simpa [gQ] using h0) hv
  | win r es lo =>
   simp only [cP]
   split
   ·trivial
   ·rename_i h0; exact other _ (fun xs h=>by cases h) (by simpa [gQ] using h0) hv
theorem aJw {s:St} (q:Nat) {x:D} (hq:s.o[q]?=some (.val x)):gJ s ⟨lA q x.unown s.e,s.o.set q .dead⟩:=fun c C a w hr=>by
 have h:=aC6 q hr
 unfold m8 at h
 rw [hq] at h
 exact h
section
variable {P : Program} {n r : Nat} {ops : Array Oper} {Q : Exit -> Act -> World -> Prop}
def sP (ops:Array Oper):Bool:=ops.all fun o=>match o.op with
 | .defer _=>false
 | _=>true
theorem aXP {o:Oper} {a:Act} {w:World} {K:Act->World->Prop} (hd:∀ c,o.op≠.defer c) (h:o.wp P a w K Q):o.wpIn (Fence.wide.inRound r) n P a w K Q:=by
 refine ⟨fun f _=>trivial,?_⟩
 rw [Oper.semAt_plain _ _ _ hd]
 unfold Oper.wp at h
 generalize (execOp a.eval o).run P w=x at h ⊢
 have hdep:(Fence.wide.inRound r).depth.isSome=true->1<=n:=fun h=>by cases h
 cases x with
 | ok y w' =>
  cases y with
  | value v=>exact h
  | skip=>exact h
  | defer d=>exact h
  | enter f args=>exact ⟨hdep,CallsIn.inRound r (callsIn_wide.2 h)⟩
  | row row args=>exact ⟨hdep,fun c cs _=>by obtain ⟨v,w2,h1,h2⟩:=h c cs; exact ⟨v,w2,h1,stepsIn_wide.2 h2⟩⟩
  | round l f t as bd=>exact h.elim
  | _=>exact h
 | halt hv w' =>
  cases hv<;>exact h
theorem aEK (hd:sP ops=true) (hQ:∀ a w,¬ Q .outgrown a w):∀ (l:List Nat) (a:Act) (w:World),wpOps P ops Q l a w->wpOpsIn (Fence.wide.inRound r) n P ops Q l a w
 | [],a,w,h=>h
 | i :: l,a,w,h=>by
  simp only [wpOps] at h
  simp only [wpOpsIn]
  cases ho:ops[i]? with
  | none=>rw [ho] at h; exact aEK hd hQ l a w h
  | some o =>
   rw [ho] at h
   simp only at h ⊢
   have hdo:∀ c,o.op≠.defer c:=fun c e=>by
    have:=Array.all_eq_true.1 hd i (by have:=(Array.getElem?_eq_some_iff.1 ho).1; exact this)
    rw [(Array.getElem?_eq_some_iff.1 ho).2,e] at this
    cases this
   split
   ·rename_i hw
    rw [if_pos hw] at h
    rcases h with h|⟨_,a0,w0,h⟩
    ·exact Oper.wpIn_mono (fun a' w' h'=>aEK hd hQ l a' w' h') (aXP hdo h)
    ·exact absurd h (hQ a0 w0)
   ·rename_i hw
    rw [if_neg hw] at h
    exact ⟨fun f _=>trivial,aEK hd hQ l _ w h⟩
theorem yI {id:Nat} {a:Act} {w:World} (hd:sP ops=true) (hQ:∀ a w,¬ Q .outgrown a w) (hm:P.follows .mixedOrders=true)
  (h:wpAny P .any ops Q ops.size (Array.replicate ops.size false) a { w with drawn:=w.drawn + 1 }):(Code.region id ops true).wpIn (Fence.wide.inRound r) n P Q a w :=
 wpIn_region_draw fun t=>by
  simp only [Region.schedule,hm,aP,if_true]
  exact aEK hd hQ _ _ _ (wpAny_sound ops.size t _ a _ h)
theorem aEh {id:Nat} {a:Act} {w:World} (hd:sP ops=true) (hQ:∀ a w,¬ Q .outgrown a w) (h:wpList P ops Q ops.toList a w):(Code.region id ops false).wpIn (Fence.wide.inRound r) n P Q a w :=
 wpIn_region (aEK hd hQ _ _ _ (by rw [List.range_eq_range',<-Array.length_toList,wpOps_eq_wpList ops.toList 0 (by simp)]; exact h))
end
section
variable {c : Ctx} {ob : List Ob} {C : List OC} {E : Nat -> SV} {a : Act} {w : World} {s : St} {ops : Array Oper} {r n : Nat}
theorem aBv {id:Nat} {Q:Exit->Act->World->Prop} {Q':(Nat->SV)->Prop} (hnd:sP ops=true) (hno:∀ a w,¬ Q .outgrown a w) (hm:c.P.follows .mixedOrders=true) (hB:Region.lexB .any ops=true) (hd:∀ (j:Nat) (o:Oper) (d:Nat),ops[j]?=some o->o.dst=some d->c.lo<=d/\d < c.n)
  (hr:RelE c ob C E a w) (h:aDQ c ob C ops Q' ops.toList E) (hQ:∀ E a w,RelE c ob C E a w->Q' E->Q .normal a w):(Code.region id ops true).wpIn (Fence.wide.inRound r) n c.P Q a w:=by
 simp only [Region.lexB,aC] at hB
 refine yI hnd hno hm (z7 (Q:=Q') hd hQ _ _ E _ _ ?_ ?_)
 ·have hx:mO w { w with drawn:=w.drawn + 1 }:=⟨rfl,rfl,rfl,aD _,fun _ _=>rfl⟩
  exact ⟨hr.tmps,hr.defers,fun t=>(hr.env t).ext hx,hr.wd.ext hx,hr.fix⟩
 ·have:=zB (c:=c) (ob:=ob) (C:=C) (md:=.any) ops.toList 0 (Array.replicate ops.size false) E (by simp) (by simpa using hB.2) h
  simpa using this
theorem aDe {ts un:List Nat} {p:MP} {id:Nat} {K:St->Prop} {Q:Act->World->Prop} (hnd:sP ops=true) (hp:aBC c.P c.nn ops ts=some (un,p)) (hr:Rel c s C a w) (hx:gB c.G un p [] s K) (hQ:∀ s C a w,Rel c s C a w->K s->Q a w):(Code.region id ops true).wpIn (Fence.wide.inRound r) n c.P (fun e a w=>e=.normal/\Q a w) a w:=by
 unfold aBC at hp
 split at hp
 ·cases hp
 ·rename_i k r
  split at hp
  ·rename_i sk hd
   split at hp
   ·rename_i hc
    simp only [aC,decide_eq_true_eq] at hc
    obtain ⟨⟨⟨h1,h2⟩,h3⟩,h4⟩:=hc
    obtain ⟨p',hp1,hp2⟩:=aJ.1 hp
    injection hp2 with e1 e2
    subst e1 e2
    have hx2:mO w { w with drawn:=w.drawn + 1 }:=⟨rfl,rfl,rfl,aD _,fun _ _=>rfl⟩
    have hr':Rel c s C a { w with drawn:=w.drawn + 1 }:=⟨hr.tmps,hr.defers,fun t=>(hr.env t).ext hx2,hr.wd.ext hx2,hr.fix⟩
    have:=(aDH (c:=c) (ops:=ops) (un:=r.take k) (K:=K) (Q:=fun e a w=>e=.normal/\Q a w) h2 (fun s C a w h1 h2=>⟨rfl,hQ s C a w h1 h2⟩) (fun ch a w h=>by cases h.1) sk p' true true _ ops.size [] s C a _ (fun _=>False) h3 hp1 h4 hr' (fun _ b hb=>hb.elim) hx).1 rfl
    exact yI hnd (fun a w h=>by cases h.1) h1 (y9 _ _ _ _ this)
   ·cases hp
  ·cases hp
end
def mX:Code->Bool
 | .skip=>true
 | .region _ ops _=>sP ops
 | .seq a b=>mX a && mX b
 | .cond _ a b=>mX a && mX b
 | .block _ b=>mX b
 | .exit _=>true
 | _=>false
def yZ:MC->Bool
 | .skip=>true
 | .reg _ _ _=>true
 | .any _ _ _=>true
 | .seq a b=>yZ a && yZ b
 | .cond _ a b=>yZ a && yZ b
 | .block _ b=>yZ b
 | .exit _=>true
 | .gh m=>yZ m
 | _=>false
def aU8 (c:Ctx) (r:Nat) (m:MC) (s:St) (Q:Exit->St->Prop):Prop :=
 ∀ n lv code,comp c.P c.nn lv code=some m->mX code=true->∀ C a w,Rel c s C a w->code.wpIn (Fence.wide.inRound r) n c.P (fun e a' w'=>∃ s' C',Q e s'/\Rel c s' C' a' w') a w
section
variable {c : Ctx} {r : Nat} {s : St} {Q : Exit -> St -> Prop}
theorem aLV {draw:Bool} {lv:List Nat} {ms:List MOp} (hx:fX c.G ms s (fun s'=>Q .normal ⟨nW lv s'.e,s'.o⟩)):aU8 c r (.reg draw lv ms) s Q:=by
 intro n lv' code hc hnd C a w hr
 obtain ⟨id,ops,rfl,h1,h2⟩:=aHl hc
 have hnd:sP ops=true:=hnd
 refine wpIn_mono (Q:=fun e a' w'=>e=.normal/\∃ s' C',Q .normal s'/\Rel c s' C' a' w') ?_ (fun e a' w' ⟨h,h'⟩=>by subst h; exact h')
 cases draw with
 | true =>
  obtain ⟨h3,h4⟩:=h2 rfl
  refine aBv (C:=C) hnd (fun a w h=>by cases h.1) h3 h4 (fun j o d hj=>wJ _ _ h1 o (aM (by rw [Array.getElem?_toList]; exact hj)) d) hr.relE (sB _ _ s _ h1 hx) ?_
  rintro E a' w' hE ⟨e',hK,rfl⟩
  exact ⟨rfl,_,C,hK,Rel.weak (s:=⟨e',s.o⟩) ⟨hE.tmps,hE.defers,hE.env,hE.wd,hE.fix⟩ (mA lv e')⟩
 | false =>
  refine aEh hnd (fun a w h=>by cases h.1) (l5 (K:=fun s'=>Q .normal ⟨nW lv s'.e,s'.o⟩) ?_ _ _ s C a w h1 hr hx)
  intro s' C' a' w' hr' hK
  exact ⟨rfl,_,C',hK,hr'.weak (mA lv s'.e)⟩
theorem aOX {un lv:List Nat} {p:MP} {J:St->Prop} (hx:gB c.G un p [] s fun s'=>J ⟨nW lv s'.e,s'.o⟩) (hJ:∀ s',J s'->∃ s1,gJ s' s1/\Q .normal s1):aU8 c r (.any un lv p) s Q:=by
 intro n lv' code hc hnd C a w hr
 obtain ⟨id,ops,ts,rfl,hp⟩:=aHj hc
 have hnd:sP ops=true:=hnd
 refine wpIn_mono (Q:=fun e a' w'=>e=.normal/\∃ s' C',Q .normal s'/\Rel c s' C' a' w') ?_ (fun e a' w' ⟨h,h'⟩=>by subst h; exact h')
 refine aDe hnd hp hr hx ?_
 intro s' C' a' w' hr' hK
 obtain ⟨s1,h1,h2⟩:=hJ _ hK
 obtain ⟨C1,h3⟩:=(hr'.weak (e':=nW lv s'.e) (mA lv s'.e)).weaken h1
 exact ⟨s1,C1,h2,h3⟩
end
theorem kV {c:Ctx} {r:Nat}:∀ (m:MC) (s:St) (Q:Exit->St->Prop),yZ m=true->e8 c.G m s Q->aU8 c r (j6 m) s Q
 | .gh m,s,Q,hf,h=>by
  obtain ⟨α,S,hk,h⟩:=h
  intro n lv code hc hnd C a w hr
  obtain ⟨x,C',hr'⟩:=hk c C a w hr
  exact kV m (S x) Q hf (h x) n lv code hc hnd C' a w hr'
 | .skip,s,Q,_,h=>by
  intro n lv code hc hnd C a w hr
  cases code<;>simp only [comp] at hc
  case skip=>exact wpIn_skip ⟨s,C,h,hr⟩
  all_goals first
   |(split at hc<;>(try split at hc)<;>(try split at hc)<;>first|cases hc|(injection hc with hc; cases hc))
   |(simp only [aJ] at hc; obtain ⟨_,_,hc⟩:=hc; cases hc)
   |(injection hc with hc; cases hc)
   | cases hc
 | .exit i,s,Q,_,h=>by
  intro n lv code hc hnd C a w hr
  have:=aFd hc
  subst this
  exact wpIn_exit ⟨s,C,h,hr⟩
 | .any un lv p,s,Q,_,h=>by
  obtain ⟨J,h1,h2⟩:=h
  exact aOX h1 h2
 | .reg d lv ms,s,Q,_,h=>aLV h
 | .seq x y,s,Q,hf,h=>by
  simp only [yZ,aC] at hf
  intro n lv code hc hnd C a w hr
  obtain ⟨a',b',rfl,h1,h2⟩:=aI0 hc
  simp only [mX,aC] at hnd
  refine wpIn_seq (wpIn_mono (kV x s _ hf.1 h n lv a' h1 hnd.1 C a w hr) ?_)
  rintro e a1 w1 ⟨s1,C1,hq,hr1⟩
  cases e with
  | normal=>exact kV y s1 Q hf.2 hq n lv b' h2 hnd.2 C1 a1 w1 hr1
  | _=>exact ⟨s1,C1,hq,hr1⟩
 | .cond p x y,s,Q,hf,h=>by
  simp only [yZ,aC] at hf
  simp only [e8] at h
  intro n lv code hc hnd C a w hr
  obtain ⟨q,a',b',rfl,h3,h4,h5⟩:=aGc hc
  simp only [mX,aC] at hnd
  split at h
  ·rename_i b hb
   have hv:=j7 hr h3
   rw [hb] at hv
   exact wpIn_cond_split (eN.1 hv) (fun hh=>kV x s Q hf.1 (h.1 hh) n lv a' h4 hnd.1 C a w hr) (fun hh=>kV y s Q hf.2 (h.2 hh) n lv b' h5 hnd.2 C a w hr)
  ·exact h.elim
 | .block i x,s,Q,hf,h=>by
  intro n lv code hc hnd C a w hr
  obtain ⟨b',rfl,h1⟩:=aDr hc
  refine wpIn_block (wpIn_mono (kV x s _ hf h n lv b' h1 hnd C a w hr) ?_)
  rintro e a1 w1 ⟨s1,C1,hq,hr1⟩
  cases e with
  | exit j =>
   simp only [inB] at hq
   simp only [Exit.inBlock]
   split
   ·rename_i hi; rw [if_pos hi] at hq; exact ⟨s1,C1,hq,hr1⟩
   ·rename_i hi; rw [if_neg hi] at hq; exact ⟨s1,C1,hq,hr1⟩
  | _=>exact ⟨s1,C1,hq,hr1⟩
 | .loop _,_,_,hf,_=>by cases hf
 | .ret,_,_,hf,_=>by cases hf
 | .hole,_,_,hf,_=>by cases hf
def nP:Code->Option Code
 | .rangeFunc _ _ _ b=>some b
 | .seq a b=>(nP a).or (nP b)
 | .cond _ a b=>(nP a).or (nP b)
 | .block _ b=>nP b
 | .loop b=>nP b
 | _=>none
theorem aLr (ps:List (List Nat)) {P:PG} {body:Option Code} {m:MC} {lo n0:Nat} {lv:List (Nat×List Nat)} (hb:(body.bind fun c=>(nP c).bind (comp P.P (lo,n0) lv))=some m) (hnd:(body.bind fun c=>(nP c).map mX)=some true) (hf:yZ (cY ps m)=true)
  {s:St} {Q:Exit->St->Prop} (h:e8 P (cY ps m) s Q):∃ b,body.bind nP=some b/\∀ (c:Ctx),c.G=P->c.nn=(lo,n0)->∀ C a w,Rel c s C a w->∀ r n,b.wpIn (Fence.wide.inRound r) n P.P (fun e a' w'=>∃ s' C',Q e s'/\Rel c s' C' a' w') a w:=by
 cases body with
 | none=>cases hb
 | some code =>
  simp only [aU] at hb hnd
  cases hc:nP code with
  | none=>rw [hc] at hb; cases hb
  | some b =>
   rw [hc] at hb hnd
   simp only [aU,aW,Option.some.injEq] at hb hnd
   refine ⟨b,hc,fun c hP hn C a w hr r n=>?_⟩
   subst hP
   have he:j6 (cY ps m)=m:=(nS ps m).trans (aEA b m hb)
   have:=kV (c:=c) (r:=r) (cY ps m) s Q hf h
   rw [he] at this
   exact this n lv b (by rw [hn]; exact hb) hnd C a w hr
def mD {α:Type} (p:α->Bool) (xs:List α):Int:=match xs.findIdx? p with
 | some i=>(i:Int)
 | none=>-1
theorem tT {α:Type} {p:α->Bool} {xs:List α} {i:Nat} {r:α} (hr:xs[i]?=some r) (hp:p r=true) (h:∀ (j:Nat) (s:α),j < i->xs[j]?=some s->p s=false):mD p xs=(i:Int):=by
 have hi:=c6 hr
 have e:xs.findIdx? p=some i:=by
  rw [List.findIdx?_eq_some_iff_getElem]
  refine ⟨hi,?_,fun j hj=>?_⟩
  ·rw [List.getElem?_eq_getElem hi] at hr; injection hr with hr; rw [hr]; exact hp
  ·have:=h j (xs[j]'(by omega)) hj (List.getElem?_eq_getElem _)
   simp [this]
 simp only [mD,e]
theorem rM {α:Type} {p:α->Bool} {xs:List α} (h:∀ (j:Nat) (s:α),xs[j]?=some s->p s=false):mD p xs=-1:=by
 have e:xs.findIdx? p=none:=by
  rw [List.findIdx?_eq_none_iff]
  intro x hx
  obtain ⟨j,hj⟩:=List.getElem?_of_mem hx
  exact h j x hj
 simp only [mD,e]
theorem t7 {α:Type} {p:α->Bool} {xs:List α}:decide (0<=mD p xs)=xs.any p:=by
 cases h:xs.findIdx? p with
 | none =>
  have h1:=h
  rw [List.findIdx?_eq_none_iff] at h
  have:xs.any p=false:=by rw [aR]; intro x hx; simp [h x hx]
  simp [mD,h1,this]
 | some i =>
  have h1:=h
  rw [List.findIdx?_eq_some_iff_getElem] at h
  obtain ⟨hi,hp,_⟩:=h
  have:xs.any p=true:=by rw [aT]; exact ⟨_,List.getElem_mem hi,hp⟩
  simp [mD,h1,this]
theorem aIe {α:Type} {p:α->Bool} {xs:List α} (h:0<=mD p xs):∃ (i:Nat) (r:α),mD p xs=(i:Int)/\xs[i]?=some r/\p r=true:=by
 cases e:xs.findIdx? p with
 | none=>simp [mD,e] at h
 | some i =>
  have h1:=e
  rw [List.findIdx?_eq_some_iff_getElem] at h1
  obtain ⟨hi,hp,_⟩:=h1
  exact ⟨i,xs[i],by simp [mD,e],List.getElem?_eq_getElem hi,hp⟩
theorem aN8 {α:Type} {p:α->Bool} {xs:List α} (h:¬ 0<=mD p xs):mD p xs=-1:=by
 cases e:xs.findIdx? p with
 | none=>simp [mD,e]
 | some i=>simp [mD,e] at h
theorem eV {o:List Ob} {K:SV->Prop} {n:Int}:fB o none (iD n) K=K (.d (.int .i64 n)):=by simp [iD,fB,D.noOwn]
theorem vW (v:List Int) (n:Int):v.any (fun x=>decide (n=x))=v.contains n:=by
 induction v with
 | nil=>rfl
 | cons a v ih=>simp only [aN,aQ,ih]; congr 1
end Go.Pe
