/-
 A layer for walks of Go functions aFM their compact code (part D): data and where they lie,contracts,the operations,the walk of code. Own work,the same in every claim of this set.
-/
import Derived.Test.YtjmobminbckhjaaGreatDoorPeC
import Derived.ProofKit
import Derived.Deep.Slices
import Derived.Lib.AtoiErrMem
import Derived.RangeFuncNested
import Derived.RangeFuncCalls
import Derived.OrdersIn
import Derived.OwnWalkIn
open And renaming intro->aA
open Bool renaming and_eq_true->aC, true_or->aP
open Classical renaming choose_spec->aG
open Iff renaming rfl->aB
open List renaming nodup_append->aE, replicate->aF, mem_append->aH, append_assoc->aI, take_append_drop->aK, nodup_nil->aL, mem_of_getElem?->aM, any_cons->aN, set_cons_zero->aO, contains_cons->aQ, any_eq_false->aR, any_eq_true->aT, append_nil->aV, drop_drop->aX
open Nat renaming le_refl->aD, zero_le->aS, zero_add->aY
open Option renaming map_eq_some_iff->aJ, bind_some->aU, map_some->aW
namespace Go.Pe
open Go Go.RowKit
def j5 {α:Type} (x:Option α) (K:α->Prop):Prop:=∃ y,x=some y/\K y
def jS (c:Prop) (K:Prop):Prop:=c/\K
def onI (k:IntKind) (n:Int) (K:SV->Prop):Prop:=(dX k n/\K (.d (.int k n)))\/K (.d (.int k (k.wrap n)))
theorem aM3 {α:Type} {y:α} {K:α->Prop}:j5 (some y) K=K y:=by simp [j5]
theorem cK {K:Prop}:jS True K=K:=by simp [jS]
theorem cO {c K:Prop} (h:c) (k:K):jS c K:=⟨h,k⟩
theorem eX {α:Type} {x:Option α} {K:α->Prop} (y:α) (h:x=some y) (k:K y):j5 x K:=⟨y,h,k⟩
theorem cM {k:IntKind} {n:Int} {K:SV->Prop} (h:dX k n) (hk:K (.d (.int k n))):onI k n K:=.inl ⟨h,hk⟩
@[congr] theorem aTA {α : Type} {x x' : Option α} {K : α -> Prop} (h : x = x') : j5 x K = j5 x' K := by rw [h]
@[congr] theorem aTs {c c' : Prop} {K : Prop} (h : c = c') : jS c K = jS c' K := by rw [h]
@[congr] theorem aTB {k : IntKind} {n n' : Int} {K : SV -> Prop} (h : n = n') : onI k n K = onI k n' K := by rw [h]
def x7 (o:List Ob) (r:Nat):Option D:=match o[r]? with
 | some (.box z)=>some z
 | _=>none
def nQ (o:List Ob) (r:Nat):Option D:=match o[r]? with
 | some (.val z)=>some z
 | _=>none
def aGi (o:List Ob) (r es:Nat):Option D:=match o[r]? with
 | some (.val (.sl true es' xs))=>if es'=es then some xs else none
 | _=>none
theorem iT {o:List Ob} {r:Nat} {z:D}:x7 o r=some z↔o[r]?=some (.box z):=by
 unfold x7; split
 ·rename_i h; rw [h]; simp
 ·rename_i h; constructor
  ·intro h; cases h
  ·intro h2; exact absurd h2 (h z)
theorem gS {o:List Ob} {r:Nat} {z:D}:nQ o r=some z↔o[r]?=some (.val z):=by
 unfold nQ; split
 ·rename_i h; rw [h]; simp
 ·rename_i h; constructor
  ·intro h; cases h
  ·intro h2; exact absurd h2 (h z)
theorem kR {o:List Ob} {r es:Nat} {z:D}:aGi o r es=some z↔o[r]?=some (.val (.sl true es z)):=by
 unfold aGi; split
 ·rename_i es' xs h; rw [h]
  split
  ·rename_i e; subst e; simp
  ·rename_i e; simp [e]
 ·rename_i h; constructor
  ·intro h; cases h
  ·intro h2; exact absurd h2 (h _ _)
def aI7 (o:List Ob) (r es:Nat):Option (Bool×D):=match o[r]? with
 | some (.val (.sl ow es' xs))=>if es'=es then some (ow,xs) else none
 | _=>none
theorem aDM {o:List Ob} {r es:Nat} {ow:Bool} {z:D}:aI7 o r es=some (ow,z)↔o[r]?=some (.val (.sl ow es z)):=by
 unfold aI7; split
 ·rename_i ow' es' xs h; rw [h]
  split
  ·rename_i e; subst e; simp
  ·rename_i e; simp [e]
 ·rename_i h; constructor
  ·intro h; cases h
  ·intro h2; exact absurd h2 (h _ _ _)
section
variable {P : PG} {s : St} {o : List Ob} {E : Nat -> SV} {K : SV -> Prop} {KK : SV -> St -> Prop}
theorem aOc {mo:MO}:nJ P s true mo KK=fP P s mo KK:=propext aB
theorem aOG {mo:MO}:nJ P s false mo KK=eS P s.o (look s.e) mo fun sv=>KK sv s:=propext aB
theorem aJD {x:Opd}:eS P o E (.mov x) K=K (iC E x):=propext aB
def tY (c a b:SV) (K:SV->Prop):Prop:=match c with
 | .d (.bool t)=>(t=true->K a)/\(t=false->K b)
 | _=>False
theorem aHc {c x y:Opd}:eS P o E (.pick c x y) K=tY (iC E c) (iC E x) (iC E y) K:=propext aB
theorem aFC {a b:SV}:tY (.d (.bool true)) a b K=K a:=by simp [tY]
theorem aEE {a b:SV}:tY (.d (.bool false)) a b K=K b:=by simp [tY]
theorem cG {a b:SV} {t:Bool} (h1:t=true->K a) (h2:t=false->K b):tY (.d (.bool t)) a b K:=⟨h1,h2⟩
@[congr] theorem aPr {c c' a a' b b' : SV} (h : c = c') (h1 : a = a') (h2 : b = b') : tY c a b K = tY c' a' b' K := by rw [h, h1, h2]
theorem aKv {op:BinOp} {x y:Opd}:eS P o E (.bin op x y) K=kC op (iC E x) (iC E y) K:=propext aB
theorem aMQ {op:BinOp} {x y:Opd}:eS P o E (.bb op x y) K=uA op (iC E x) (iC E y) K:=propext aB
theorem aLM {op:BinOp} {x y:Opd}:eS P o E (.ie op x y) K=tI op (iC E x) (iC E y) K:=propext aB
theorem aMV {op:UnOp} {x:Opd}:eS P o E (.un op x) K=uC op (iC E x) K:=propext aB
def aAu (x:SV) (K:SV->Prop):Prop:=match x with
 | .d (.ptr y)=>K (.d (.ptr y))
 | .ptr r off p=>K (.ptr r off p)
 | .el r es i off p=>K (.el r es i off p)
 | .d (.clo g xs)=>K (.d (.clo g xs))
 | _=>False
theorem aKw {x:Opd}:eS P o E (.nck x) K=aAu (iC E x) K:=propext aB
theorem aMW {agg:Option Nat} {x:Opd}:eS P o E (.ld agg x) K=kO o agg (iC E x) K:=propext aB
theorem aLH {f off:Nat} {x:Opd}:eS P o E (.fa f off x) K=dD f off (iC E x) K:=propext aB
theorem aMe {es:Nat} {x i:Opd}:eS P o E (.ia es x i) K=pT o es (iC E x) (iC E i) K:=propext aB
theorem aL3 {x i:Opd}:eS P o E (.ix x i) K=tJ (iC E x) (iC E i) K:=propext aB
theorem aKA {b:Bool} {x:Opd}:eS P o E (.len b x) K=j9 o b (iC E x) K:=propext aB
theorem aJI {x:Opd} {i:Nat}:eS P o E (.ext x i) K=sR (iC E x) i K:=propext aB
theorem aHi {k:IntKind} {x:Opd}:eS P o E (.conv k x) K=o5 k (iC E x) K:=propext aB
theorem aK7 {x:Opd} {lo hi:Option Opd}:eS P o E (.sls x lo hi) K=mS (iC E x) (s6 E lo) (s6 E hi) K:=propext aB
theorem aLY {b:Bool} {x y:Opd}:eS P o E (.mx b x y) K=vZ b (iC E x) (iC E y) K:=propext aB
def evL (E:Nat->SV):List Opd->List SV
 | []=>[]
 | p :: ps=>iC E p :: evL E ps
theorem aIf (ps:List Opd):evL E ps=ps.map (iC E):=by
 induction ps with
 | nil=>rfl
 | cons p ps ih=>simp [evL,ih]
def aBb (P:PG) (o:List Ob) (f:FuncId) (as:List SV) (K:SV->Prop):Prop :=
 ∃ ds rs,gY o as ds/\Fn P f ds (fun qs=>qs=rs)/\(as.all isD=true\/rs.all D.allOwn=true)/\K (sU (rs.map D.unown))
theorem aGd {f:FuncId} {args:List Opd}:eS P o E (.callP f args) K=aBb P o f (evL E args) K:=by rw [aIf]; rfl
@[congr] theorem aNM {f : FuncId} {as as' : List SV} (h : as = as') : aBb P o f as K = aBb P o f as' K := by rw [h]
def lW (P:PG) (s:St) (f:FuncId) (args:List Opd) (as:List SV) (K:SV->St->Prop):Prop:=as=jO s.e args->fP P s (.call f args) K
theorem aIx {f:FuncId} {args:List Opd}:fP P s (.call f args) KK=lW P s f args (jO s.e args) KK:=propext ⟨fun h _=>h,fun h=>h rfl⟩
@[congr] theorem aPB {f : FuncId} {args : List Opd} {as as' : List SV} {s' : St} (h2 : s = s') (h : as = as') : lW P s f args as KK = lW P s' f args as' KK := by rw [h, h2]
def dK (o:List Ob):SV->Option D
 | .d x=>some x
 | .own r=>(nQ o r).map D.unown
 | .vw r=>match x7 o r with
  | some (.st xs)=>some (.st xs.unown)
  | _=>none
 | _=>none
def dA (o:List Ob):List SV->Option (List D)
 | []=>some []
 | s :: ss=>match dK o s,dA o ss with
  | some x,some xs=>some (x :: xs)
  | _,_=>none
theorem aOA {s:SV} {x:D} (h:dK o s=some x):aFs o s x:=by
 unfold dK at h
 split at h
 ·injection h with h; exact h.symm
 ·rename_i r
  obtain ⟨y,h1,h2⟩:=aJ.1 h
  exact ⟨y,gS.1 h1,h2.symm⟩
 ·rename_i r
  split at h
  ·rename_i xs h1
   injection h with h
   exact ⟨xs,iT.1 h1,h.symm⟩
  ·cases h
 ·cases h
theorem nF:∀ {ss:List SV} {xs:List D},dA o ss=some xs->gY o ss xs
 | [],xs,h=>by injection h with h; exact h.symm
 | s :: ss,xs,h=>by
  unfold dA at h
  split at h
  ·rename_i x ys h1 h2
   injection h with h
   exact ⟨x,ys,h.symm,aOA h1,nF h2⟩
  ·cases h
theorem cL {f:FuncId} {as:List SV} {ds rs:List D} (hf:Fn P f ds (fun qs=>qs=rs)) (ha:dA o as=some ds) (hd:(as.all isD || rs.all D.allOwn)=true) (hk:K (sU (rs.map D.unown))):aBb P o f as K :=
 ⟨ds,rs,nF ha,hf,by simpa using hd,hk⟩
theorem cJ {f:FuncId} {args:List Opd} {as:List SV} {ds rs:List D} (hf:Fn P f ds (fun qs=>qs=rs)) (ha:dA s.o as=some ds) (hd:(as.all isD || rs.all D.allOwn)=true) (hk:KK (l9 (dU rs s.o).1) ⟨s.e,(dU rs s.o).2⟩):lW P s f args as KK:=by
 intro e
 subst e
 exact ⟨_,_,jP.refl s,fun _=>.inl ⟨ds,_,nF ha,hf,fun qs h=>by subst h; exact ⟨by simpa using hd,hk⟩⟩⟩
theorem aCd {f:FuncId} {args:List Opd} {as:List SV} {ds:List D} {R:List D->Prop} (hf:Fn P f ds R) (ha:dA s.o as=some ds) (hk:∀ rs,R rs->(as.all isD=true\/rs.all D.allOwn=true)/\KK (l9 (dU rs s.o).1) ⟨s.e,(dU rs s.o).2⟩):lW P s f args as KK:=by
 intro e
 subst e
 exact ⟨_,_,jP.refl s,fun _=>.inl ⟨ds,R,nF ha,hf,hk⟩⟩
theorem uO {f:FuncId} {args:List Opd} {bx:Bool} {r:Nat} {ss:List SV} {x y:D} {ds rs:List D} (hf:FnM P f bx x ds (fun x' qs=>x'=y/\qs=rs)) (hor:s.o[r]?=some (iK bx x)) (ha:dA s.o ss=some ds) (hd:ss.all isD=true)
  (hk:KK (l9 (dU rs (s.o.set r (iK bx y))).1) ⟨l8 (f9 r) s.e,(dU rs (s.o.set r (iK bx y))).2⟩):lW P s f args (jY bx r :: ss) KK:=by
 intro e
 refine ⟨_,_,jP.refl s,fun _=>.inr (.inl ⟨bx,r,x,ss,ds,_,e.symm,hor,nF ha,hd,hf,?_⟩)⟩
 rintro x' rs' ⟨rfl,rfl⟩
 exact hk
theorem kG {f:FuncId} {args:List Opd} {bx:Bool} {r:Nat} {ss:List SV} {x:D} {ds:List D} {R:D->List D->Prop} (hf:FnM P f bx x ds R) (hor:s.o[r]?=some (iK bx x)) (ha:dA s.o ss=some ds) (hd:ss.all isD=true)
  (hk:∀ y rs,R y rs->KK (l9 (dU rs (s.o.set r (iK bx y))).1) ⟨l8 (f9 r) s.e,(dU rs (s.o.set r (iK bx y))).2⟩):lW P s f args (jY bx r :: ss) KK:=by
 intro e
 exact ⟨_,_,jP.refl s,fun _=>.inr (.inl ⟨bx,r,x,ss,ds,R,e.symm,hor,nF ha,hd,hf,hk⟩)⟩
theorem aCv {f:FuncId} {args:List Opd} {as:List SV} (h:s3 s.o as fun ds=>∃ R,Fn P f ds R/\∀ rs,R rs->rs.all D.allOwn=true/\KK (l9 (dU rs s.o).1) ⟨s.e,(dU rs s.o).2⟩):lW P s f args as KK:=by
 intro e
 subst e
 exact ⟨_,_,jP.refl s,fun _=>.inr (.inr (.inl (.inl h)))⟩
theorem aST {f:FuncId} {args:List Opd} {as:List SV} {ds:List D} {L:List (Value×Nat×D)} {R:List D->Prop} (hf:FnL P f L ds R) (ha:dA s.o as=some ds) (hL:pQ s.o L) (hk:∀ rs,R rs->rs.all D.allOwn=true/\KK (l9 (dU rs s.o).1) ⟨s.e,(dU rs s.o).2⟩):lW P s f args as KK:=by
 intro e
 subst e
 exact ⟨_,_,jP.refl s,fun _=>.inr (.inr (.inl (.inr (.inl ⟨ds,L,R,nF ha,hL,hf,hk⟩))))⟩
theorem aFy {f:FuncId} {args:List Opd} {as:List SV} (q:Nat) (h:lW P (aFV q s) f args (jO (aFV q s).e args) KK):lW P s f args as KK:=by
 intro _
 obtain ⟨α,S,hS,h⟩:=h rfl
 exact ⟨_,_,(aYn q s).sig fun _=>hS,fun u=>h u.2⟩
theorem aI0 {f:FuncId} {args:List Opd} {as:List SV} {α:Type} (S:α->St) (hk:jP s S) (h:∀ x,lW P (S x) f args (jO (S x).e args) KK):lW P s f args as KK:=by
 intro _
 have hx:∀ x,∃ (β:Type) (T:β->St),jP (S x) T/\∀ u,aQr P (T u) f (jO (T u).e args) KK\/aQX P (T u) f (jO (T u).e args) KK\/aQ9 P (T u) f (jO (T u).e args) KK\/aLB P (T u) f (jO (T u).e args) KK:=fun x=>h x rfl
 exact ⟨_,_,hk.sig fun x=>aG (aG (hx x)) |>.1,fun u=>(aG (aG (hx u.1))).2 u.2⟩
theorem aOo {k:IntKind} {a b:Int}:g9 .add k a b K=onI k (a + b) K:=propext aB
theorem aPZ {k:IntKind} {a b:Int}:g9 .sub k a b K=onI k (a - b) K:=propext aB
theorem aPF {k:IntKind} {a b:Int}:g9 .mul k a b K=onI k (a * b) K:=propext aB
theorem aOv {k:IntKind} {a b:Int}:g9 .quo k a b K=jS (b≠0) (onI k (a.tdiv b) K):=propext aB
theorem aOU {k:IntKind} {a b:Int}:g9 .rem k a b K=jS (b≠0) (K (.d (.int k (a.tmod b)))):=propext aB
theorem aOJ {k:IntKind} {a b:Int}:g9 .and k a b K=K (.d (.int k (bits .and k a b))):=propext aB
theorem aSF {k:IntKind} {a b:Int}:g9 .or k a b K=K (.d (.int k (bits .or k a b))):=propext aB
theorem aPS {k:IntKind} {a b:Int}:g9 .xor k a b K=K (.d (.int k (bits .xor k a b))):=propext aB
theorem aOF {k:IntKind} {a b:Int}:g9 .eql k a b K=K (.d (.bool (decide (a=b)))):=propext aB
theorem aP1 {k:IntKind} {a b:Int}:g9 .neq k a b K=K (.d (.bool (!decide (a=b)))):=propext aB
theorem aPL {k:IntKind} {a b:Int}:g9 .lss k a b K=K (.d (.bool (decide (a < b)))):=propext aB
theorem aPn {k:IntKind} {a b:Int}:g9 .leq k a b K=K (.d (.bool (decide (a<=b)))):=propext aB
theorem aQe {k:IntKind} {a b:Int}:g9 .gtr k a b K=K (.d (.bool (decide (b < a)))):=propext aB
theorem aPW {k:IntKind} {a b:Int}:g9 .geq k a b K=K (.d (.bool (decide (b<=a)))):=propext aB
theorem aN3 {op:BinOp} {k:IntKind} {a b:Int}:kC op (.d (.int k a)) (.d (.int k b)) K=g9 op k a b K:=by simp [kC]
theorem aPR {op:BinOp} {a b:List UInt8}:kC op (.d (.str a)) (.d (.str b)) K=pF op a b K:=propext aB
theorem aPG {a b:List UInt8}:pF .add a b K=jS (a.length + b.length<=9223372036854775807) (K (.d (.str (a ++ b)))):=propext aB
theorem aPj {a b:List UInt8}:pF .eql a b K=K (.d (.bool (decide (a=b)))):=propext aB
theorem aN4 {a b:List UInt8}:pF .neq a b K=K (.d (.bool (!decide (a=b)))):=propext aB
theorem aOi {a b:List UInt8}:pF .lss a b K=K (.d (.bool (Op.bytesLess a b))):=propext aB
theorem aSl {a b:Bool}:uA .eql (.d (.bool a)) (.d (.bool b)) K=K (.d (.bool (a == b))):=propext aB
theorem aSx {a b:Bool}:uA .neq (.d (.bool a)) (.d (.bool b)) K=K (.d (.bool (!(a == b)))):=propext aB
theorem aRZ {a:Bool}:tI .eql (.d (.err a)) (.d (.err true)) K=K (.d (.bool a)):=propext aB
theorem aSw {a:Bool}:tI .neq (.d (.err a)) (.d (.err true)) K=K (.d (.bool (!a))):=propext aB
theorem aS2 {b:Bool}:uC .not (.d (.bool b)) K=K (.d (.bool (!b))):=propext aB
theorem aSs {k:IntKind} {n:Int}:uC .neg (.d (.int k n)) K=onI k (-n) K:=propext aB
theorem aOD {k k':IntKind} {n:Int}:o5 k (.d (.int k' n)) K=onI k n K:=propext aB
theorem aVv {k k':IntKind} {b:Bool} {n m:Int}:vZ b (.d (.int k n)) (.d (.int k' m)) K=K (.d (.int k (if b then max n m else min n m))):=propext aB
theorem aOp {a:List UInt8}:j9 o true (.d (.str a)) K=K (.d (.int .i64 a.length)):=propext aB
theorem aSt {ow:Bool} {es:Nat} {xs:D}:j9 o false (.d (.sl ow es xs)) K=K (.d (.int .i64 xs.len)):=propext aB
theorem aP7:j9 o false .nil K=K (.d (.int .i64 0)):=propext aB
def lenOf (o:List Ob) (r:Nat):Option Nat:=match nQ o r with
 | some (.sl _ _ xs)=>some xs.len
 | _=>none
theorem aN7 {r:Nat}:j9 o false (.own r) K=j5 (lenOf o r) fun n=>K (.d (.int .i64 n)):=by
 apply propext
 simp only [j9,j5,lenOf]
 constructor
 ·rintro ⟨es,xs,ow,h,hk⟩
  exact ⟨xs.len,by rw [gS.2 h],hk⟩
 ·rintro ⟨n,h,hk⟩
  split at h
  ·rename_i ow es xs h1
   injection h with h
   subst h
   exact ⟨es,xs,ow,gS.1 h1,hk⟩
  ·cases h
theorem aTN {b:List UInt8} {k:IntKind} {n:Int}:tJ (.d (.str b)) (.d (.int k n)) K=jS (0<=n) (j5 (b[n.toNat]?) fun u=>K (.d (.int .u8 (u.toNat:Int)))):=by
 apply propext
 simp only [tJ,jS,j5]
 constructor
 ·rintro ⟨u,h1,h2,h3⟩; exact ⟨h1,u,h2,h3⟩
 ·rintro ⟨h1,u,h2,h3⟩; exact ⟨u,h1,h2,h3⟩
theorem aWJ {es es':Nat} {ow:Bool} {xs:D} {k:IntKind} {n:Int}:pT o es (.d (.sl ow es' xs)) (.d (.int k n)) K=jS (es'=es) (jS (0<=n) (j5 (xs.nth n.toNat) fun y=>K (.d (.ptr y)))):=by
 apply propext
 simp only [pT,jS,j5]
 constructor
 ·rintro ⟨h,u,h1,h2,h3⟩; exact ⟨h,h1,u,h2,h3⟩
 ·rintro ⟨h,h1,u,h2,h3⟩; exact ⟨h,u,h1,h2,h3⟩
theorem aSR {r es:Nat} {k:IntKind} {n:Int}:pT o es (.own r) (.d (.int k n)) K=j5 (aI7 o r es) fun p=>jS (0<=n) (j5 (p.2.nth n.toNat) fun y=>K (elS p.1 r es n.toNat y)):=by
 apply propext
 simp only [pT,jS,j5]
 constructor
 ·rintro ⟨ow,xs,y,h1,h2,h3,h4⟩; exact ⟨(ow,xs),aDM.2 h1,h2,y,h3,h4⟩
 ·rintro ⟨⟨ow,xs⟩,h1,h2,y,h3,h4⟩; exact ⟨ow,xs,y,aDM.1 h1,h2,h3,h4⟩
theorem aSS {k:IntKind} {n:Int}:eI o none (.int k n) K=K (.d (.int k n)):=by simp [eI,D.noOwn]
theorem aPf {b:Bool}:eI o none (.bool b) K=K (.d (.bool b)):=by simp [eI,D.noOwn]
theorem aMl {b:List UInt8}:eI o none (.str b) K=K (.d (.str b)):=by simp [eI,D.noOwn]
theorem aSk {b:Bool}:eI o none (.err b) K=K (.d (.err b)):=by simp [eI,D.noOwn]
theorem aVW {b:Bool} {es:Nat} {xs:D}:eI o none (.sl b es xs) K=jS ((D.sl b es xs).noOwn=true) (K (.d (.sl b es xs))):=propext aB
def aJa (o:List Ob) (q:Nat):Option (Nat×Value):=match o[q]? with
 | some (.tag r v)=>some (r,v)
 | _=>none
theorem aDB {o:List Ob} {q r:Nat} {v:Value}:aJa o q=some (r,v)↔o[q]?=some (.tag r v):=by
 unfold aJa
 constructor
 ·intro h
  split at h
  ·rename_i r' v' h1; injection h with h; injection h with h2 h3; subst h2 h3; exact h1
  ·cases h
 ·intro h; rw [h]
theorem aTg {q:Nat} {v:Value}:eI o none (.lnk q v) K=j5 (aJa o q) fun p=>jS (p.2=v) (K (.own p.1)):=by
 apply propext
 simp only [eI,j5,jS]
 constructor
 ·rintro ⟨r,h1,h2⟩; exact ⟨(r,v),aDB.2 h1,rfl,h2⟩
 ·rintro ⟨⟨r,v'⟩,h1,h2,h3⟩; simp only at h2 h3; subst h2; exact ⟨r,aDB.1 h1,h3⟩
theorem aUS {n:Nat} {xs:D}:eI o (some n) (.st xs) K=jS (xs.size=n) (jS (xs.noOwn=true) (K (.d (.st xs)))):=propext aB
theorem aWV {agg:Option Nat} {y:D}:kO o agg (.d (.ptr y)) K=eI o agg y K:=propext aB
theorem aSi {agg:Option Nat} {r off:Nat} {p:List Nat}:kO o agg (.ptr r off p) K=j5 (x7 o r) fun z=>jS (fB p z=off) (j5 (gG p z) fun y=>eI o agg y K):=by
 apply propext
 simp only [kO,jS,j5]
 constructor
 ·rintro ⟨z,h1,h2,h3⟩; exact ⟨z,iT.2 h1,h2,h3⟩
 ·rintro ⟨z,h1,h2,h3⟩; exact ⟨z,iT.1 h1,h2,h3⟩
theorem aVc {agg:Option Nat} {r es i off:Nat} {p:List Nat}:kO o agg (.el r es i off p) K=j5 (aGi o r es) fun xs=>j5 (xs.nth i) fun z=>jS (fB p z=off) (j5 (gG p z) fun y=>eI o agg y K):=by
 apply propext
 simp only [kO,jS,j5]
 constructor
 ·rintro ⟨xs,z,h1,h2,h3,h4⟩; exact ⟨xs,kR.2 h1,z,h2,h3,h4⟩
 ·rintro ⟨xs,h1,z,h2,h3,h4⟩; exact ⟨xs,z,kR.1 h1,h2,h3,h4⟩
theorem aWH {f off:Nat} {xs:D}:dD f off (.d (.ptr (.st xs))) K=jS (xs.pre f=off) (j5 (xs.nth f) fun y=>K (.d (.ptr y))):=propext aB
theorem aTl {f off r off':Nat} {p:List Nat}:dD f off (.ptr r off' p) K=K (.ptr r (off' + off) (p ++ [f])):=propext aB
theorem aUx {f off r es i off':Nat} {p:List Nat}:dD f off (.el r es i off' p) K=K (.el r es i (off' + off) (p ++ [f])):=propext aB
theorem aSC {xs:List SV} {i:Nat}:sR (.tup xs) i K=j5 xs[i]? K:=propext aB
def onT (t:Option (D×List Ob×List Nat)) (K:D->List Ob->List Nat->Prop):Prop:=∃ x,t=some x/\K x.1 x.2.1 x.2.2
@[congr] theorem aTy {t t' : Option (D × List Ob × List Nat)} {K : D -> List Ob -> List Nat -> Prop} (h : t = t') : onT t K = onT t' K := by rw [h]
theorem aTd {x:D} {K:D->List Ob->List Nat->Prop}:lR o (.d x) K=K x o []:=propext aB
theorem aLF {r:Nat} {K:D->List Ob->List Nat->Prop}:lR o (.own r) K=j5 (nQ o r) fun x=>K x (o.set r .dead) [r]:=by
 apply propext
 simp only [lR,j5]
 constructor
 ·rintro ⟨x,h1,h2⟩; exact ⟨x,gS.2 h1,h2⟩
 ·rintro ⟨x,h1,h2⟩; exact ⟨x,gS.1 h1,h2⟩
def aGN (o:List Ob) (r:Nat):Option D:=match x7 o r with
 | some (.st xs)=>some xs
 | _=>none
theorem rH {r:Nat} {z:D}:aGN o r=some z↔o[r]?=some (.box (.st z)):=by
 unfold aGN; split
 ·rename_i h; rw [iT] at h; rw [h]; simp
 ·rename_i h; constructor
  ·intro h; cases h
  ·intro h2; exact absurd (iT.2 h2) (h z)
theorem aO1 {r:Nat} {K:D->List Ob->List Nat->Prop}:lR o (.vw r) K=j5 (aGN o r) fun xs=>K (.st xs) (o.set r .dead) [r]:=by
 apply propext
 simp only [lR,j5]
 constructor
 ·rintro ⟨x,h1,h2⟩; exact ⟨x,rH.2 h1,h2⟩
 ·rintro ⟨x,h1,h2⟩; exact ⟨x,rH.1 h1,h2⟩
theorem aK0 {r off:Nat} {p:List Nat} {y:D} {K:List Ob->Nat->Prop}:r6 o (.ptr r off p) y K=j5 (x7 o r) fun z=>jS (fB p z=off) (j5 (gG p z) fun u=>jS (y.size=u.size) (K (o.set r (.box (j7 p z y))) r)):=by
 apply propext
 simp only [r6,j5,jS]
 constructor
 ·rintro ⟨z,u,h1,h2,h3,h4,h5⟩; exact ⟨z,iT.2 h1,h2,u,h3,h4,h5⟩
 ·rintro ⟨z,h1,h2,u,h3,h4,h5⟩; exact ⟨z,u,iT.1 h1,h2,h3,h4,h5⟩
theorem aLD {r es i off:Nat} {p:List Nat} {y:D} {K:List Ob->Nat->Prop}:r6 o (.el r es i off p) y K=j5 (aGi o r es) fun xs=>j5 (xs.nth i) fun z=>jS (fB p z=off) (j5 (gG p z) fun u=>jS (y.size=u.size) (K (o.set r (.val (.sl true es (xs.setN i (j7 p z y))))) r)):=by
 apply propext
 simp only [r6,j5,jS]
 constructor
 ·rintro ⟨xs,z,u,h1,h2,h3,h4,h5,h6⟩; exact ⟨xs,kR.2 h1,z,h2,h3,u,h4,h5,h6⟩
 ·rintro ⟨xs,h1,z,h2,h3,u,h4,h5,h6⟩; exact ⟨xs,z,u,kR.1 h1,h2,h3,h4,h5,h6⟩
theorem aWa {x:Opd}:fP P s (.box x) KK=lR s.o (nC s.e x) fun y o1 kr=>jS (y.isV=true) (KK (.ptr o1.length 0 []) ⟨fM kr s.e,o1 ++ [.box y]⟩):=propext aB
theorem aQk {z:D}:fP P s (.alloc z) KK=KK (.ptr s.o.length 0 []) ⟨s.e,s.o ++ [.box z]⟩:=propext aB
theorem aWL {n:Nat} {x v:Opd}:fP P s (.st n x v) KK=lR s.o (nC s.e v) fun y o1 kr=>jS (y.isV=true) (jS (y.size=n) (jS (kr.all (fun r=>!fO r (nC s.e x))=true) (r6 o1 (nC s.e x) y fun o2 r=>KK .undef ⟨l8 (f9 r) (fM kr s.e),o2⟩))):=propext aB
theorem aUb {es bytes:Nat} {x y:Opd}:fP P s (.app es bytes x y) KK=aFb es bytes s.o (nC s.e x) (nC s.e y) fun sv o2 kr kk=>KK sv ⟨tQ kk (fM kr s.e),o2⟩:=propext aB
theorem aWB {es len:Nat} {z:D} {ps:List (Nat×Opd)}:fP P s (.bs es len z ps) KK=gU s.o (i6 (aF len z)) (lA s.e ps) fun xs o1 kr=>KK (.own o1.length) ⟨fM kr s.e,o1 ++ [.val (.sl true es xs)]⟩:=propext aB
def aFQ (s:St) (xs:D) (o1:List Ob) (kr:List Nat) (b:Bool) (KK:SV->St->Prop):Prop:=if b then KK (.d (.st xs)) ⟨fM kr s.e,o1⟩ else KK (.own o1.length) ⟨fM kr s.e,o1 ++ [.val (.st xs)]⟩
theorem aUT {z:D} {ps:List (Nat×Opd)}:fP P s (.bld z ps) KK=gU s.o z (lA s.e ps) fun xs o1 kr=>aFQ s xs o1 kr xs.noOwn KK:=propext aB
@[congr] theorem aQM {xs xs' : D} {o1 o1' : List Ob} {kr : List Nat} {b b' : Bool} (h1 : xs = xs') (h2 : o1 = o1') (h3 : b = b') : aFQ s xs o1 kr b KK = aFQ s xs' o1' kr b' KK := by rw [h1, h2, h3]
theorem aN2 {xs:D} {o1:List Ob} {kr:List Nat}:aFQ s xs o1 kr true KK=KK (.d (.st xs)) ⟨fM kr s.e,o1⟩:=propext aB
theorem aPs {xs:D} {o1:List Ob} {kr:List Nat}:aFQ s xs o1 kr false KK=KK (.own o1.length) ⟨fM kr s.e,o1 ++ [.val (.st xs)]⟩:=propext aB
def aO5 (s:St) (es bytes:Nat) (z:D) (n:SV) (KK:SV->St->Prop):Prop:=match n with
 | .d (.int _ m)=>(0<=m/\(bytes:Int) * m<=281474976710656/\m<=9223372036854775807)/\KK (.own s.o.length) ⟨s.e,s.o ++ [.val (.sl true es (i6 (aF m.toNat z)))]⟩
 | _=>False
theorem aWD {es bytes:Nat} {z:D} {n:Opd}:fP P s (.mk es bytes z n) KK=aO5 s es bytes z (nC s.e n) KK:=propext aB
theorem aSn {es bytes:Nat} {z:D} {k:IntKind} {m:Int}:aO5 s es bytes z (.d (.int k m)) KK=jS (0<=m/\(bytes:Int) * m<=281474976710656/\m<=9223372036854775807) (KK (.own s.o.length) ⟨s.e,s.o ++ [.val (.sl true es (i6 (aF m.toNat z)))]⟩):=propext aB
theorem aKz {xs:D} {K:D->List Ob->List Nat->Prop}:gU o xs [] K=K xs o []:=propext aB
theorem w6 {xs:D} {i:Nat} {sv:SV} {ps:List (Nat×SV)} {K:D->List Ob->List Nat->Prop}:gU o xs ((i,sv) :: ps) K=lR o sv fun y o1 kr=>j5 (xs.nth i) fun u=>jS (y.size=u.size) (jS (y.isV=true) (gU o1 (xs.setN i y) ps fun xs' o2 kr'=>K xs' o2 (kr ++ kr'))):=by
 apply propext
 have e:gU o xs ((i,sv) :: ps) K=lR o sv fun y o1 kr=>∃ u,xs.nth i=some u/\y.size=u.size/\y.isV=true/\gU o1 (xs.setN i y) ps fun xs' o2 kr'=>K xs' o2 (kr ++ kr'):=rfl
 rw [e]; exact aB
theorem aM2 {es bytes:Nat} {ys:D} {kr:List Nat} {K:SV->List Ob->List Nat->Option Nat->Prop}:p9 es bytes o .nil ys kr K=jS (ys.len * bytes<=140737488355328/\ys.len<=9223372036854775807) (K (.own o.length) (o ++ [.val (.sl true es ys)]) kr none):=propext aB
theorem aMA {es bytes r:Nat} {ys:D} {kr:List Nat} {K:SV->List Ob->List Nat->Option Nat->Prop}:p9 es bytes o (.own r) ys kr K=j5 (aGi o r es) fun xs=>jS ((xs.len + ys.len) * bytes<=140737488355328/\xs.len + ys.len<=9223372036854775807) (K (.own r) ((unT r o).set r (.val (.sl true es (xs.app ys)))) kr (some r)):=by
 apply propext
 simp only [p9,j5,jS]
 constructor
 ·rintro ⟨xs,h1,h2,h3⟩; exact ⟨xs,kR.2 h1,h2,h3⟩
 ·rintro ⟨xs,h1,h2,h3⟩; exact ⟨xs,kR.1 h1,h2,h3⟩
theorem aR8 {es es' bytes:Nat} {x:SV} {ow:Bool} {ys:D} {K:SV->List Ob->List Nat->Option Nat->Prop}:aFb es bytes o x (.d (.sl ow es' ys)) K=jS (es'=es) (p9 es bytes o x ys [] K):=propext aB
theorem aNd {es bytes:Nat} {x:SV} {K:SV->List Ob->List Nat->Option Nat->Prop}:aFb es bytes o x .nil K=p9 es bytes o x .nil [] K:=propext aB
def aFx (es bytes:Nat) (o:List Ob) (x:SV) (q:Nat) (ys:D) (b:Bool) (K:SV->List Ob->List Nat->Option Nat->Prop):Prop:=if b then p9 es bytes o x ys [] K else p9 es bytes (o.set q .dead) x ys [q] K
theorem aMb {es bytes q:Nat} {x:SV} {K:SV->List Ob->List Nat->Option Nat->Prop}:aFb es bytes o x (.own q) K=j5 (aGi o q es) fun ys=>jS (x≠.own q) (aFx es bytes o x q ys ys.noOwn K):=by
 apply propext
 simp only [aFb,j5,jS]
 constructor
 ·rintro ⟨xs,h1,h2,h3⟩; exact ⟨xs,kR.2 h1,h2,h3⟩
 ·rintro ⟨xs,h1,h2,h3⟩; exact ⟨xs,kR.1 h1,h2,h3⟩
@[congr] theorem aRS {es bytes q : Nat} {x : SV} {ys ys' : D} {b b' : Bool} {K : SV -> List Ob -> List Nat -> Option Nat -> Prop} (h1 : ys = ys') (h3 : b = b') : aFx es bytes o x q ys b K = aFx es bytes o x q ys' b' K := by rw [h1, h3]
theorem aQj {es bytes q:Nat} {x:SV} {ys:D} {K:SV->List Ob->List Nat->Option Nat->Prop}:aFx es bytes o x q ys true K=p9 es bytes o x ys [] K:=propext aB
theorem aP9 {es bytes q:Nat} {x:SV} {ys:D} {K:SV->List Ob->List Nat->Option Nat->Prop}:aFx es bytes o x q ys false K=p9 es bytes (o.set q .dead) x ys [q] K:=propext aB
theorem aVb {e:iN} {t:Nat} {r:List ResultVar} {K:List D->Prop}:gC e o (.tmp t :: r) K=lR o (look e t) fun x o1 _=>gC e o1 r fun xs=>K (x :: xs):=propext aB
theorem aOY {e:iN} {K:List D->Prop}:gC e o [] K=K []:=propext aB
def wP (o:List Ob) (sv:SV) (K:D->List Ob->Prop):Prop:=match sv with
 | .ptr q 0 []=>j5 (aGN o q) fun xs=>K (.st xs) (o.set q .dead)
 | _=>False
theorem aVg {e:iN} {t ty:Nat} {r:List ResultVar} {K:List D->Prop}:gC e o (.cell t ty :: r) K=wP o (look e t) fun x o1=>gC e o1 r fun ys=>K (x :: ys):=by
 apply propext
 have e1:gC e o (.cell t ty :: r) K=match look e t with
  | .ptr q 0 []=>∃ xs,o[q]?=some (.box (.st xs))/\gC e (o.set q .dead) r fun ys=>K (.st xs :: ys)
  | _=>False:=rfl
 rw [e1]
 unfold wP
 split
 ·simp only [j5,rH]
 ·exact aB
theorem aNr {q:Nat} {K:D->List Ob->Prop}:wP o (.ptr q 0 []) K=j5 (aGN o q) fun xs=>K (.st xs) (o.set q .dead):=propext aB
def aGS (P:Program) (rvs:List ResultVar) (R:List D->Prop) (s:St):Prop:=jS (fJ P s.e s.o rvs) (gC s.e s.o rvs R)
@[congr] theorem aRK {P : Program} {rvs : List ResultVar} {R : List D -> Prop} {s' : St} (h : s = s') : aGS P rvs R s = aGS P rvs R s' := by rw [h]
theorem aT6 {P:Program} {rvs:List ResultVar} {R:List D->Prop}:aGW P rvs R .normal s=aGS P rvs R s:=propext aB
theorem aWd {P:Program} {rvs:List ResultVar} {R:List D->Prop}:aGW P rvs R .ret s=aGS P rvs R s:=propext aB
theorem aNX {P:Program} {rvs:List ResultVar} {R:List D->Prop}:aGS P rvs R s=jS (fJ P s.e s.o rvs) (gC s.e s.o rvs R):=propext aB
theorem aSp {e:iN} {t:Nat} {r:List ResultVar} {K:List D->List Ob->Prop}:fQ e o (.tmp t :: r) K=lR o (look e t) fun x o1 _=>fQ e o1 r fun xs o2=>K (x :: xs) o2:=propext aB
theorem aLo {e:iN} {K:List D->List Ob->Prop}:fQ e o [] K=K [] o:=propext aB
theorem aSj {e:iN} {t ty:Nat} {r:List ResultVar} {K:List D->List Ob->Prop}:fQ e o (.cell t ty :: r) K=wP o (look e t) fun x o1=>fQ e o1 r fun ys o2=>K (x :: ys) o2:=by
 apply propext
 have e1:fQ e o (.cell t ty :: r) K=match look e t with
  | .ptr q 0 []=>∃ xs,o[q]?=some (.box (.st xs))/\fQ e (o.set q .dead) r fun ys o2=>K (.st xs :: ys) o2
  | _=>False:=rfl
 rw [e1]
 unfold wP
 split
 ·simp only [j5,rH]
 ·exact aB
def aFO (bx:Bool) (o:List Ob) (K:D->Prop):Prop:=∃ x',o[0]?=some (iK bx x')/\K x'
theorem aSc {K:D->Prop}:aFO false o K=j5 (nQ o 0) K:=by
 apply propext
 simp only [aFO,j5,iK]
 exact ⟨fun ⟨x,h,k⟩=>⟨x,gS.2 h,k⟩,fun ⟨x,h,k⟩=>⟨x,gS.1 h,k⟩⟩
theorem aSY {K:D->Prop}:aFO true o K=j5 (x7 o 0) K:=by
 apply propext
 simp only [aFO,j5,iK]
 exact ⟨fun ⟨x,h,k⟩=>⟨x,iT.2 h,k⟩,fun ⟨x,h,k⟩=>⟨x,iT.1 h,k⟩⟩
@[congr] theorem aSm {bx : Bool} {o' : List Ob} {K : D -> Prop} (h : o = o') : aFO bx o K = aFO bx o' K := by rw [h]
@[congr] theorem aLi {e e' : iN} {o' : List Ob} {rs : List ResultVar} {K : List D -> List Ob -> Prop} (he : e = e') (h : o = o') : fQ e o rs K = fQ e' o' rs K := by rw [h, he]
def aCA (P:Program) (rvs:List ResultVar) (bx:Bool) (R:D->List D->Prop) (s:St):Prop:=jS (fJ P s.e s.o rvs) (jS (look s.e 0=jY bx 0) (fQ s.e s.o rvs fun rs o2=>aFO bx o2 fun x'=>R x' rs))
@[congr] theorem aOx {P : Program} {rvs : List ResultVar} {bx : Bool} {R : D -> List D -> Prop} {s' : St} (h : s = s') : aCA P rvs bx R s = aCA P rvs bx R s' := by rw [h]
theorem aS4 {P:Program} {rvs:List ResultVar} {bx:Bool} {R:D->List D->Prop}:aGv P rvs bx R .normal s=aCA P rvs bx R s:=propext aB
theorem aSV {P:Program} {rvs:List ResultVar} {bx:Bool} {R:D->List D->Prop}:aGv P rvs bx R .ret s=aCA P rvs bx R s:=propext aB
theorem aL9 {P:Program} {rvs:List ResultVar} {bx:Bool} {R:D->List D->Prop}:aCA P rvs bx R s=jS (fJ P s.e s.o rvs) (jS (look s.e 0=jY bx 0) (fQ s.e s.o rvs fun rs o2=>aFO bx o2 fun x'=>R x' rs)):=propext aB
end
@[congr] theorem aQJ {o o' : List Ob} {s s' : SV} {K : D -> List Ob -> List Nat -> Prop} (ho : o = o') (hs : s = s') : lR o s K = lR o' s' K := by rw [ho, hs]
@[congr] theorem aPh {o o' : List Ob} {x x' : SV} {y y' : D} {K : List Ob -> Nat -> Prop} (ho : o = o') (hx : x = x') (hy : y = y') : r6 o x y K = r6 o' x' y' K := by rw [ho, hx, hy]
@[congr] theorem aLe {o o' : List Ob} {xs xs' : D} {ps ps' : List (Nat × SV)} {K : D -> List Ob -> List Nat -> Prop} (ho : o = o') (hxs : xs = xs') (hps : ps = ps') : gU o xs ps K = gU o' xs' ps' K := by rw [ho, hxs, hps]
@[congr] theorem aRW {es : Nat} {bytes : Nat} {o o' : List Ob} {x x' : SV} {y y' : SV} {K : SV -> List Ob -> List Nat -> Option Nat -> Prop} (ho : o = o') (hx : x = x') (hy : y = y') : aFb es bytes o x y K = aFb es bytes o' x' y' K := by rw [ho, hx, hy]
@[congr] theorem aR1 {es : Nat} {bytes : Nat} {o o' : List Ob} {x x' : SV} {ys ys' : D} {kr kr' : List Nat} {K : SV -> List Ob -> List Nat -> Option Nat -> Prop} (ho : o = o') (hx : x = x') (hys : ys = ys') (hkr : kr = kr') : p9 es bytes o x ys kr K = p9 es bytes o' x' ys' kr' K := by rw [ho, hx, hys, hkr]
@[congr] theorem aNK {e e' : iN} {o o' : List Ob} {rs : List ResultVar} {K : List D -> Prop} (he : e = e') (ho : o = o') : gC e o rs K = gC e' o' rs K := by rw [he, ho]
@[congr] theorem aOP {o o' : List Ob} {x x' : SV} {K : D -> List Ob -> Prop} (ho : o = o') (hx : x = x') : wP o x K = wP o' x' K := by rw [ho, hx]
@[congr] theorem aNY {o o' : List Ob} {agg : Option Nat} {x x' : SV} {K : SV -> Prop} (ho : o = o') (hx : x = x') : kO o agg x K = kO o' agg x' K := by rw [ho, hx]
@[congr] theorem aPy {o o' : List Ob} {agg : Option Nat} {y y' : D} {K : SV -> Prop} (ho : o = o') (hy : y = y') : eI o agg y K = eI o' agg y' K := by rw [ho, hy]
@[congr] theorem aPm {o o' : List Ob} {es : Nat} {x x' : SV} {i i' : SV} {K : SV -> Prop} (ho : o = o') (hx : x = x') (hi : i = i') : pT o es x i K = pT o' es x' i' K := by rw [ho, hx, hi]
@[congr] theorem aQb {x x' : SV} {i i' : SV} {K : SV -> Prop} (hx : x = x') (hi : i = i') : tJ x i K = tJ x' i' K := by rw [hx, hi]
@[congr] theorem aNJ {o o' : List Ob} {b : Bool} {x x' : SV} {K : SV -> Prop} (ho : o = o') (hx : x = x') : j9 o b x K = j9 o' b x' K := by rw [ho, hx]
@[congr] theorem aOs {f : Nat} {off : Nat} {x x' : SV} {K : SV -> Prop} (hx : x = x') : dD f off x K = dD f off x' K := by rw [hx]
@[congr] theorem aNI {x x' : SV} {i : Nat} {K : SV -> Prop} (hx : x = x') : sR x i K = sR x' i K := by rw [hx]
@[congr] theorem aNu {k : IntKind} {x x' : SV} {K : SV -> Prop} (hx : x = x') : o5 k x K = o5 k x' K := by rw [hx]
@[congr] theorem aNR {x x' : SV} {lo lo' : Option SV} {hi hi' : Option SV} {K : SV -> Prop} (hx : x = x') (hlo : lo = lo') (hhi : hi = hi') : mS x lo hi K = mS x' lo' hi' K := by rw [hx, hlo, hhi]
@[congr] theorem aP4 {b : Bool} {x x' : SV} {y y' : SV} {K : SV -> Prop} (hx : x = x') (hy : y = y') : vZ b x y K = vZ b x' y' K := by rw [hx, hy]
@[congr] theorem aNH {op : BinOp} {x x' : SV} {y y' : SV} {K : SV -> Prop} (hx : x = x') (hy : y = y') : kC op x y K = kC op x' y' K := by rw [hx, hy]
@[congr] theorem aON {op : BinOp} {x x' : SV} {y y' : SV} {K : SV -> Prop} (hx : x = x') (hy : y = y') : uA op x y K = uA op x' y' K := by rw [hx, hy]
@[congr] theorem aQc {op : BinOp} {x x' : SV} {y y' : SV} {K : SV -> Prop} (hx : x = x') (hy : y = y') : tI op x y K = tI op x' y' K := by rw [hx, hy]
@[congr] theorem aOM {op : UnOp} {x x' : SV} {K : SV -> Prop} (hx : x = x') : uC op x K = uC op x' K := by rw [hx]
@[congr] theorem aQE {x x' : SV} {K : SV -> Prop} (hx : x = x') : aAu x K = aAu x' K := by rw [hx]
@[congr] theorem aRN {P : PG} {o o' : List Ob} {E : Nat -> SV} {mo : MO} {K : SV -> Prop} (ho : o = o') : eS P o E mo K = eS P o' E mo K := by rw [ho]
@[congr] theorem aQu {P : PG} {s s' : St} {mo : MO} {K : SV -> St -> Prop} (hs : s = s') : fP P s mo K = fP P s' mo K := by rw [hs]
@[congr] theorem aQV {P : PG} {s s' : St} {eff : Bool} {mo : MO} {K : SV -> St -> Prop} (hs : s = s') : nJ P s eff mo K = nJ P s' eff mo K := by rw [hs]
@[congr] theorem aRU {s s' : St} {es : Nat} {bytes : Nat} {z : D} {n n' : SV} {K : SV -> St -> Prop} (hs : s = s') (hn : n = n') : aO5 s es bytes z n K = aO5 s' es bytes z n' K := by rw [hs, hn]
def aSh (P:Program) (ty:TypeId) (o:List Ob):SV->Prop
 | .ptr q 0 []=>match aGN o q with
  | some xs=>eE P ty=some xs.size
  | none=>True
 | _=>True
theorem aMo {P:Program} {ty q:Nat} {o:List Ob}:aSh P ty o (.ptr q 0 [])=(match aGN o q with
  | some xs=>eE P ty=some xs.size
  | none=>True):=propext aB
theorem aSg {P:Program} {e:iN} {o:List Ob}:fJ P e o []=True:=propext aB
theorem aWO {P:Program} {e:iN} {o:List Ob} {t:Nat} {r:List ResultVar}:fJ P e o (.tmp t :: r)=fJ P e o r:=propext aB
theorem aWN {P:Program} {e:iN} {o:List Ob} {t ty:Nat} {r:List ResultVar}:fJ P e o (.cell t ty :: r)=(aSh P ty o (look e t)/\fJ P e o r):=by
 apply propext
 refine and_congr ?_ aB
 constructor
 ·intro h
  unfold aSh
  split
  ·rename_i q hq
   split
   ·rename_i xs hx; exact h q xs hq (rH.1 hx)
   ·trivial
  ·trivial
 ·intro h q xs hq hx
  rw [hq] at h
  rw [aMo,rH.2 hx] at h
  exact h
end Go.Pe
namespace Go.Pe
open Go Go.RowKit Go.WideShapes Go.ChangeShapes
inductive Sh where
 | int (k:IntKind)
 | bool
 | str
 | sl (es:Nat) (e:Sh)
 | st (xs:Sh)
 | nil
 | cons (x xs:Sh)
def Sh.size:Sh->Nat
 | .st xs=>xs.size
 | .nil=>0
 | .cons x xs=>x.size + xs.size
 | _=>1
def Sh.ok (P:Program):Sh->TypeId ⊕ (List Field×Nat)->Bool
 | .int k,.inl t=>match P.underlying t with
  | some (.int k')=>k' == k
  | _=>false
 | .bool,.inl t=>match P.underlying t with
  | some .bool=>true
  | _=>false
 | .str,.inl t=>match P.underlying t with
  | some .string=>true
  | _=>false
 | .sl es e,.inl t=>match P.underlying t with
  | some (.slice u)=>P.cellsOf u == es && e.size == es && e.ok P (.inl u)
  | _=>false
 | .st xs,.inl t=>match P.underlying t with
  | some (.struct fs)=>P.cellsOf t == xs.size && xs.ok P (.inr (fs.toList,0))
  | _=>false
 | .nil,.inr ([],_)=>true
 | .cons x xs,.inr (f :: fs,off)=>f.offset == off && P.cellsOf f.type == x.size && x.ok P (.inl f.type) && xs.ok P (.inr (fs,off + x.size))
 | _,_=>false
def mB:Sh->D->Prop
 | .int k,x=>∃ n,x=.int k n/\(Lit.int k n).wf=true
 | .bool,x=>∃ b,x=.bool b
 | .str,x=>∃ s,x=.str s/\s.length<=maxLen
 | .sl es e,x=>∃ xs:List D,x=.sl false es (i6 xs)/\xs.length<=maxLen/\∀ y∈xs,mB e y
 | .st fs,x=>∃ xs,x=.st xs/\mB fs xs
 | .nil,x=>x=.nil
 | .cons f fs,x=>∃ y ys,x=.cons y ys/\mB f y/\mB fs ys
theorem mB.size:∀ (sh:Sh) (x:D),mB sh x->x.size=sh.size
 | .int _,x,h=>by obtain ⟨n,rfl,_⟩:=h; rfl
 | .bool,x,h=>by obtain ⟨n,rfl⟩:=h; rfl
 | .str,x,h=>by obtain ⟨n,rfl,_⟩:=h; rfl
 | .sl _ _,x,h=>by obtain ⟨n,rfl,_⟩:=h; rfl
 | .st fs,x,h=>by obtain ⟨xs,rfl,h⟩:=h; exact mB.size fs xs h
 | .nil,x,h=>by rw [h]; rfl
 | .cons f fs,x,h=>by
  obtain ⟨y,ys,rfl,h1,h2⟩:=h
  show y.size + ys.size=f.size + fs.size
  rw [mB.size f y h1,mB.size fs ys h2]
section
variable {H : Type} {enc : TypeId × Value -> H} {P : Program} {w : World} {base : Nat} {spare : Nat -> Bool} {held : Bool}
theorem aNe {a:Addr} {es:Nat} {e:Sh}:∀ (k:Nat) (_:∀ i,i < k->∃ cs x,(∀ j u,cs[j]?=some u->w.cell? ((a.add (i * es)).add j)=some u)/\cs.length=es/\D.rep w (fun _=>False) x cs []/\mB e x),
  ∃ xs ds,xs.length=k/\ds.length=k * es/\(i6 xs).rep w (fun _=>False) ds []/\(∀ y∈xs,mB e y)/\∀ j u,ds[j]?=some u->w.cell? (a.add j)=some u
 | 0,_=>⟨[],[],rfl,by simp,⟨rfl,rfl⟩,by simp,by simp⟩
 | k + 1,h=>by
  obtain ⟨xs,ds,h1,h2,h3,h4,h5⟩:=aNe k fun i hi=>h i (by omega)
  obtain ⟨cs,x,g1,g2,g3,g4⟩:=h k (by omega)
  refine ⟨xs ++ [x],ds ++ cs,by simp [h1],by simp [h2,g2,Nat.succ_mul],?_,?_,?_⟩
  ·exact (fC xs [x] (ds ++ cs) []).2 ⟨ds,cs,[],[],rfl,rfl,h3,cs,[],[],[],by simp,rfl,g3,rfl,rfl⟩
  ·intro y hy
   rcases aH.1 hy with hy|hy
   ·exact h4 y hy
   ·rw [List.mem_singleton.1 hy]; exact g4
  ·intro j u hu
   by_cases hj:j < ds.length
   ·rw [List.getElem?_append_left hj] at hu; exact h5 j u hu
   ·rw [List.getElem?_append_right (by omega)] at hu
    have:=g1 _ u hu
    rw [aJg,h2,show k * es + (j - k * es)=j by omega] at this
    exact this
theorem aBY:∀ (sh:Sh) (q:TypeId ⊕ (List Field×Nat)),sh.ok P q=true->match q with
  | .inl t=>∀ (fuel:Nat) (cs:List Value) (x:DataW H×List MemPlace),DataW.trod enc P w base spare held fuel t cs=some x->∃ d,d.rep w (fun _=>False) cs []/\mB sh d
  | .inr (fs,off)=>∀ (n:Nat) (cs:List Value),cs.length=off + sh.size->(∀ f∈fs,∃ y,DataW.trod enc P w base spare held n f.type ((cs.drop f.offset).take (P.cellsOf f.type))=some y) ->
    ∃ d,d.rep w (fun _=>False) (cs.drop off) []/\mB sh d
 | .int k,.inl t,hok=>by
  intro fuel cs x h
  unfold Sh.ok at hok
  split at hok
  ·rename_i k' ht
   have:k'=k:=by simpa using hok
   subst this
   obtain ⟨n,rfl,_,hw⟩:=DataW.trod_int ht h
   exact ⟨.int k' n,⟨rfl,rfl⟩,n,rfl,hw⟩
  ·cases hok
 | .bool,.inl t,hok=>by
  intro fuel cs x h
  unfold Sh.ok at hok
  split at hok
  ·rename_i ht
   obtain ⟨n,rfl,_⟩:=DataW.trod_bool ht h
   exact ⟨.bool n,⟨rfl,rfl⟩,n,rfl⟩
  ·cases hok
 | .str,.inl t,hok=>by
  intro fuel cs x h
  unfold Sh.ok at hok
  split at hok
  ·rename_i ht
   obtain ⟨s,rfl,_,hs⟩:=DataW.trod_string ht h
   exact ⟨.str s.data.toList,⟨rfl,rfl⟩,_,rfl,by simpa using hs⟩
  ·cases hok
 | .sl es e,.inl t,hok=>by
  intro fuel cs x h
  unfold Sh.ok at hok
  split at hok
  ·rename_i u ht
   simp only [aC,beq_iff_eq] at hok
   obtain ⟨⟨hu,hes⟩,hoke⟩:=hok
   rcases Go.Deep.open_slice ht h with ⟨rfl,_⟩|⟨a,len,cap,m,n,D',Pl,rfl,hb,hl,hm,hmm,_,hx⟩
   ·exact ⟨.sl false es .nil,⟨trivial,none,0,[],[],rfl,aD _,⟨rfl,rfl⟩,rfl,rfl,.inl rfl⟩,[],rfl,aS _,by simp⟩
   ·have hlm:len<=m:=by rw [hmm]; split<;>omega
    have hel:∀ i,i < len->∃ cs x,(∀ j u,cs[j]?=some u->w.cell? ((a.add (i * es)).add j)=some u)/\cs.length=es/\Go.Pe.D.rep w (fun _=>False) x cs []/\mB e x:=by
     intro i hi
     obtain ⟨cs',h1,h2⟩:=hx i (by omega)
     rw [hu] at h1
     obtain ⟨_,g2,g3⟩:=World.cells?_some h1
     obtain ⟨d,hd,hty⟩:=aBY e (.inl u) hoke _ _ _ h2
     refine ⟨cs',d,fun j v hv=>?_,g2,hd,hty⟩
     rw [g3 j (by rw [<- g2]; exact cQ hv)]; exact hv
    obtain ⟨xs,ds,h1,h2,h3,h4,h5⟩:=aNe len hel
    have hlen:(i6 xs).len=len:=by rw [eN,h1]
    refine ⟨.sl false es (i6 xs),⟨(iJ xs).2 fun y hy=>(mB.size e y (h4 y hy)).trans hes,some a,cap,ds,[],by rw [hlen],by rw [hlen]; exact hl,h3,rfl,rfl,.inr ⟨a,rfl,?_⟩⟩,xs,rfl,by rw [h1]; omega,h4⟩
    cases hds:ds with
    | nil=>exact .inl rfl
    | cons v vs =>
     have h0:=h5 0 v (by rw [hds]; rfl)
     have hlt:=Go.Lib.lt_of_cell h0
     rw [oE] at hlt
     exact .inr ⟨hlt,fun h=>h,by rw [<- hds]; exact h5⟩
  ·cases hok
 | .st xs,.inl t,hok=>by
  intro fuel cs x h
  unfold Sh.ok at hok
  split at hok
  ·rename_i fs ht
   simp only [aC,beq_iff_eq] at hok
   obtain ⟨hc,hok⟩:=hok
   obtain ⟨ys,n,_,_,hlen,hy,hf⟩:=DataW.trod_struct ht h
   obtain ⟨d,hd,hty⟩:=aBY xs (.inr (fs.toList,0)) hok n cs (by rw [hlen,hc,aY]) (by
    intro f hf'
    obtain ⟨i,hi,he⟩:=List.getElem_of_mem hf'
    have hi2:i < ys.length:=by rw [hy]; simpa using hi
    exact ⟨ys[i],by rw [hf i f (by rw [<- he]; simp),List.getElem?_eq_getElem hi2]⟩)
   exact ⟨.st d,(show d.rep w _ cs [] from by simpa using hd),d,rfl,hty⟩
  ·cases hok
 | .nil,.inr ([],off),hok=>by
  intro n cs hlen _
  exact ⟨.nil,⟨by simp [Sh.size] at hlen; simp [hlen],rfl⟩,rfl⟩
 | .cons x xs,.inr (f :: fs,off),hok=>by
  intro n cs hlen hf
  unfold Sh.ok at hok
  simp only [aC,beq_iff_eq] at hok
  obtain ⟨⟨⟨ho,hc⟩,hx⟩,hxs⟩:=hok
  obtain ⟨y,hy⟩:=hf f (by simp)
  obtain ⟨d,hd,hty⟩:=aBY x (.inl f.type) hx _ _ _ hy
  obtain ⟨ds,hds,htys⟩:=aBY xs (.inr (fs,off + x.size)) hxs n cs (by rw [hlen]; simp only [Sh.size]; omega) (fun g hg=>hf g (by simp [hg]))
  rw [ho,hc] at hd
  refine ⟨.cons d ds,⟨(cs.drop off).take x.size,cs.drop (off + x.size),[],[],?_,rfl,hd,hds⟩,d,ds,rfl,hty,htys⟩
  rw [<- aX,aK]
 | .int _,.inr _,hok=>by simp [Sh.ok] at hok
 | .bool,.inr _,hok=>by simp [Sh.ok] at hok
 | .str,.inr _,hok=>by simp [Sh.ok] at hok
 | .sl _ _,.inr _,hok=>by simp [Sh.ok] at hok
 | .st _,.inr _,hok=>by simp [Sh.ok] at hok
 | .nil,.inl _,hok=>by simp [Sh.ok] at hok
 | .nil,.inr (_ :: _,_),hok=>by simp [Sh.ok] at hok
 | .cons _ _,.inl _,hok=>by simp [Sh.ok] at hok
 | .cons _ _,.inr ([],_),hok=>by simp [Sh.ok] at hok
theorem aJq {r:Reach} {b0:Nat} {t:TypeId} {v:Value} {d:DataW H} {ps:List MemPlace} (sh:Sh) (hok:sh.ok P (.inl t)=true) (hval:Value.okWide P w r b0 t v)
  (hd:DataW.Trod enc P w base spare held t v d ps):∃ x cs,x.rep w (fun _=>False) cs []/\v=gE x cs/\mB sh x:=by
 obtain ⟨fuel,hf⟩:=hd
 obtain ⟨x,hx,hty⟩:=aBY sh (.inl t) hok fuel _ _ hf
 refine ⟨x,_,hx,?_,hty⟩
 cases sh with
 | int k =>
  unfold Sh.ok at hok
  split at hok
  ·rename_i k' ht
   obtain ⟨n,rfl⟩:=okWide_int ht hval
   obtain ⟨m,rfl,_⟩:=hty
   rfl
  ·cases hok
 | bool =>
  unfold Sh.ok at hok
  split at hok
  ·rename_i ht
   obtain ⟨n,rfl⟩:=okWide_bool ht hval
   obtain ⟨m,rfl⟩:=hty
   rfl
  ·cases hok
 | str =>
  unfold Sh.ok at hok
  split at hok
  ·rename_i ht
   obtain ⟨n,rfl⟩:=okWide_string ht hval
   obtain ⟨m,rfl,_⟩:=hty
   rfl
  ·cases hok
 | sl es e =>
  unfold Sh.ok at hok
  split at hok
  ·rename_i u ht
   obtain ⟨a,l,c,rfl⟩:=okWide_slice ht hval
   obtain ⟨m,rfl,_⟩:=hty
   rfl
  ·cases hok
 | st xs =>
  unfold Sh.ok at hok
  split at hok
  ·rename_i fs ht
   obtain ⟨cs,rfl,_⟩:=okWide_struct ht hval
   obtain ⟨m,rfl,_⟩:=hty
   simp [gE,Value.cells]
  ·cases hok
 | nil=>simp [Sh.ok] at hok
 | cons _ _=>simp [Sh.ok] at hok
end
end Go.Pe
namespace Go.Pe
open Go Go.RowKit
theorem aBu {w:World} {x:D} {xs:List D} {cs:List Value} {us:List Value} (h:x.rep w (fun _=>False) cs []) (hs:eM w (fun _=>False) xs us []):eM w (fun _=>False) (x :: xs) (gE x cs :: us) [] :=
 ⟨cs,us,[],[],rfl,rfl,h,hs⟩
theorem aKj {w:World}:eM w (fun _=>False) [] [] []:=⟨rfl,rfl⟩
theorem Fn.walk {P:PG} {f:FuncId} {ds:List D} {vs:List Value} {w:World} (h:Fn P f ds (fun rs=>rs=[.bool true])) (hF:P.F w) (hv:eM w (fun _=>False) ds vs []) :
  Calls P.P f vs.toArray w fun e w'=>e=.returned (.bool true)/\Below w.heap.size w w':=by
 refine (h (fun _=>False) vs w (fun b hb=>hb.elim) ⟨w,hF,aD _,fun _ _=>⟨fun h=>h,rfl⟩⟩ hv).mono fun e w' ⟨rs,us,fp,he,hr,hrep,_,_,hx⟩=>?_
 subst hr
 obtain ⟨cs,us',f1,f2,rfl,_,⟨rfl,_⟩,rfl,_⟩:=hrep
 exact ⟨he,hx⟩
def dl {α:Type} (f:α->D) (xs:List α):D:=i6 (xs.map f)
section
variable {α : Type} {f : α -> D}
theorem cP (xs:List α):(dl f xs).len=xs.length:=by simp [dl,eN]
theorem dC (xs:List α) (i:Nat):(dl f xs).nth i=(xs[i]?).map f:=by simp [dl,pB]
theorem vX (xs ys:List α):(dl f xs).app (dl f ys)=dl f (xs ++ ys):=by simp [dl,aE7]
theorem rG (h:∀ a,(f a).unown=f a) (xs:List α):(dl f xs).unown=dl f xs:=by
 have e:D.unown ∘ f=f:=funext h
 simp [dl,aDR,e]
theorem oR (h:∀ a,(f a).noOwn=true):∀ xs:List α,(dl f xs).noOwn=true
 | []=>rfl
 | x :: xs=>by
  show ((f x).noOwn && (dl f xs).noOwn)=true
  rw [h,oR h xs]; rfl
theorem mG (h:∀ a,(f a).allOwn=true):∀ xs:List α,(dl f xs).allOwn=true
 | []=>rfl
 | x :: xs=>by
  show ((f x).allOwn && (dl f xs).allOwn)=true
  rw [h,mG h xs]; rfl
theorem kH:∀ (xs:List α) (i:Nat) (a:α),(dl f xs).setN i (f a)=dl f (xs.set i a)
 | [],i,a=>by cases i<;>rfl
 | x :: xs,0,a=>rfl
 | x :: xs,i + 1,a=>by
  show D.cons (f x) ((dl f xs).setN i (f a))=D.cons (f x) (dl f (xs.set i a))
  rw [kH xs i a]
theorem aEk (n:Nat) (a:α):i6 (aF n (f a))=dl f (aF n a):=by simp [dl]
theorem dW {xs:List α} {i:Nat} (h:i < xs.length):∃ a,xs[i]?=some a:=⟨xs[i],List.getElem?_eq_getElem h⟩
theorem aKW {xs:List α} {i:Nat} {a z:α} (h:xs[i]?=some a):(xs.take i ++ aF (xs.length - i) z).set i a=xs.take (i + 1) ++ aF (xs.length - (i + 1)) z:=by
 have hi:=cQ h
 rw [List.set_append_right _ _ (by simp; omega),List.length_take,Nat.min_eq_left (by omega),Nat.sub_self,show xs.length - i=(xs.length - (i + 1)) + 1 by omega,List.replicate_succ,aO,
  List.take_add_one,h]
 simp
end
theorem aOf {k:IntKind} {n:Int}:(D.int k n).isV=true:=rfl
theorem aLA {b:Bool}:(D.bool b).isV=true:=rfl
theorem aOI {b:List UInt8}:(D.str b).isV=true:=rfl
theorem aOS {b:Bool}:(D.err b).isV=true:=rfl
theorem aSH {o:Bool} {es:Nat} {xs:D}:(D.sl o es xs).isV=true:=rfl
theorem aTo {xs:D}:(D.st xs).isV=true:=rfl
theorem aPd {x:D}:(D.ptr x).isV=true:=rfl
theorem aOl {g:Nat} {x:D}:(D.clo g x).isV=true:=rfl
def iD (n:Int):D:=.int .i64 n
theorem l0 {o:List Ob} {K:D->List Ob->List Nat->Prop} (es:Nat) (h:K (.sl true es .nil) o []):lR o .nil K:=⟨es,h⟩
theorem hZ {α:Type} {f:α->D} (xs:List α) (a:α):(dl f xs).app (D.cons (f a) .nil)=dl f (xs ++ [a]):=vX xs [a]
theorem jR (xs:List Int) (n:Int):(dl iD xs).app (D.cons (.int .i64 n) .nil)=dl iD (xs ++ [n]):=vX xs [n]
theorem aNx (n:Int):(iD n).unown=iD n:=rfl
theorem aNh (n:Int):(iD n).noOwn=true:=rfl
theorem uK (n:Int):(iD n).allOwn=true:=rfl
end Go.Pe
set_option linter.all false
namespace Go.Pe
open Go Go.RowKit
def kP:Ob->Option Nat->List Nat->Option D
 | .box z,none,p=>gG p z
 | .val (.sl true _ xs),some i,p=>(xs.nth i).bind (gG p)
 | .val (.st xs),none,f :: p=>gG (f :: p) (.st xs)
 | _,_,_=>none
def eD:Ob->Option Nat->List Nat->D->Ob
 | .box z,none,p,y=>.box (j7 p z y)
 | .val (.sl true es xs),some i,p,y=>.val (.sl true es (xs.setN i (j7 p ((xs.nth i).getD .nil) y)))
 | .val (.st xs),none,f :: p,y=>.val (j7 (f :: p) (.st xs) y)
 | ob,_,_,_=>ob
theorem zV (ob:Ob) (i:Option Nat) (p:List Nat) (y u:D) (h:kP ob i p=some u) (r:Nat) (v:Value):eD ob i p y≠.tag r v:=by
 unfold kP at h
 split at h
 ·intro h2; cases h2
 ·intro h2; cases h2
 ·intro h2; cases h2
 ·cases h
theorem uQ {α:Type} (cs ds:List α) (k n:Nat) (h:(cs.drop k).take n=ds):cs.take k ++ ds ++ cs.drop (k + n)=cs:=by
 subst h
 rw [aI,show cs.drop (k + n)=(cs.drop k).drop n by rw [aX],aK,aK]
theorem wH {w:World} {M:Nat->Prop} {ob:Ob} {i:Option Nat} {p:List Nat} {u:D} {oc:OC} (h:gQ w M ob oc) (hp:kP ob i p=some u) :
  ∃ f1 f0 f2 ds,oc.fp=f1 ++ f0 ++ f2/\u.rep w M ds f0/\∀ (M':Nat->Prop) (y:D) (fy:List Nat),(∀ b,b < w.heap.size->M' b->M b)->y.rep w M' ds fy->gQ w M' (eD ob i p y) { oc with fp:=f1 ++ fy ++ f2 }:=by
 unfold kP at hp
 split at hp
 ·rename_i z
  obtain ⟨cs,fps,h1,h2,h3⟩:=h
  obtain ⟨f1,f0,f2,hf,hr,hle,hset⟩:=q8 p z cs fps u h2 hp
  refine ⟨oc.blk :: f1,f0,f2,_,by rw [h3,hf]; simp,hr,fun M' y fy hM hy=>?_⟩
  have hs:y.size=u.size:=(dH _ _ _ hy).symm.trans (dH _ _ _ hr)
  have:=hset w M' y _ fy ⟨aD _,hM,fun _ _ _=>rfl⟩ hy hs
  rw [uQ _ _ _ _ rfl] at this
  exact ⟨cs,_,h1,this,by simp⟩
 ·rename_i es xs i
  obtain ⟨cs,h1,h2⟩:=h
  obtain ⟨hL,a,c',ds,fps,e1,e2,h3,h4⟩:=h1
  cases hz:xs.nth i with
  | none=>rw [hz] at hp; cases hp
  | some z =>
   rw [hz] at hp
   have hp:gG p z=some u:=hp
   obtain ⟨g1,g0,g2,hg,hr1,hl1,hset1⟩:=xR xs ds fps i z h3 hz
   obtain ⟨f1,f0,f2,hf,hr,hle,hset⟩:=q8 p z _ g0 u hr1 hp
   simp only [if_true] at h4
   have hne:xs.len≠0:=by have:=aJo xs i z hz; omega
   rcases h4 with ⟨hc,_,_⟩|⟨g,ha,hrow,hfp⟩
   ·omega
   ·refine ⟨g :: (g1 ++ f1),f0,f2 ++ g2,_,by rw [hfp,hg,hf]; simp,hr,fun M' y fy hM hy=>?_⟩
    have hs:y.size=u.size:=(dH _ _ _ hy).symm.trans (dH _ _ _ hr)
    have k1:=hset w M' y _ fy ⟨aD _,hM,fun _ _ _=>rfl⟩ hy hs
    rw [uQ _ _ _ _ rfl] at k1
    have k2:=hset1 w M' _ _ _ ⟨aD _,hM,fun _ _ _=>rfl⟩ k1 (pY p z u y hp hs)
    rw [uQ _ _ _ _ rfl] at k2
    have hzs:z.size=es:=(xS xs i z hL hz).2.1
    have hzg:(xs.nth i).getD .nil=z:=by rw [hz]; rfl
    simp only [eD,hzg]
    refine ⟨cs,⟨aB8 xs i _ hL (by rw [pY p z u y hp hs]; exact hzs),a,c',ds,_,by rw [e1,tH],by rw [tH]; exact e2,by simpa [hz] using k2,?_⟩,h2⟩
    simp only [if_true]
    exact .inr ⟨g,ha,hrow,by simp⟩
 ·rename_i zs f p
  obtain ⟨cs,h1,h2⟩:=h
  obtain ⟨f1,f0,f2,hf,hr,hle,hset⟩:=q8 (f :: p) (.st zs) cs oc.fp u h1 hp
  refine ⟨f1,f0,f2,_,hf,hr,fun M' y fy hM hy=>?_⟩
  have hs:y.size=u.size:=(dH _ _ _ hy).symm.trans (dH _ _ _ hr)
  have:=hset w M' y _ fy ⟨aD _,hM,fun _ _ _=>rfl⟩ hy hs
  rw [uQ _ _ _ _ rfl] at this
  refine ⟨cs,this,?_⟩
  show oc.v=_
  rw [h2]
  unfold j7
  split<;>rfl
 ·cases hp
def o4:List Nat->iN->iN
 | [],e=>e
 | r :: rs,e=>o4 rs (l8 (f9 r) e)
theorem aAn:∀ (ks:List Nat) (e:iN) (t:Nat),look (o4 ks e) t=if ks.any (fun r=>f9 r (look e t)) then .any else look e t
 | [],e,t=>by simp [o4]
 | r :: rs,e,t=>by
  simp only [o4]
  rw [aAn rs,jF (f9 r) rfl]
  by_cases h:f9 r (look e t)=true
  ·simp only [h,if_true,aN,aP]
   split<;>rfl
  ·simp [h]
theorem Rel.regroup {c:Ctx} {s:St} {C:List OC} {a:Act} {w:World} (h:Rel c s C a w) (ks:List Nat) {o':List Ob} {C':List OC} (hlen:o'.length=C'.length)
  (hsame:∀ (r:Nat) (oc:OC),C[r]?=some oc->∃ oc',C'[r]?=some oc'/\oc'.v=oc.v/\oc'.blk=oc.blk/\(r ∉ ks->oc'=oc))
  (hob:∀ (r:Nat) (ob:Ob) (oc:OC),o'[r]?=some ob->C'[r]?=some oc->(s.o[r]?=some ob/\C[r]?=some oc)\/gQ w (Ms c C') ob oc)
  (hnd:(eW C').Nodup) (hsub:∀ b∈eW C',b∈eW C)
  (htag:∀ (q r:Nat) (v:Value),o'[q]?=some (.tag r v)->s.o[q]?=some (.tag r v)\/∃ oc,C'[r]?=some oc/\oc.v=v):Rel c ⟨o4 ks s.e,o'⟩ C' a w:=by
 have hg:Went w w (fun _=>False):=aX4 (kN.refl w) _
 have hX:∀ b,(fun _=>False:Nat->Prop) b->b∈eW C:=fun b hb=>hb.elim
 have hmem:∀ b∈eW C',(b∈eW C\/w.heap.size<=b)/\b < w.heap.size:=fun b hb=>⟨.inl (hsub b hb),h.wd.lt b (hsub b hb)⟩
 have hval:∀ (r:Nat) (oc:OC),C[r]?=some oc->∃ oc',C'[r]?=some oc'/\oc'.v=oc.v:=fun r oc h1=>by
  obtain ⟨oc',h2,h3,_⟩:=hsame r oc h1
  exact ⟨oc',h2,h3⟩
 refine ⟨h.tmps,h.defers,fU.upd (f:=fun s=>ks.any fun r=>f9 r s) hg hX hmem ?_ ?_ (aAn ks s.e) h.env,h.wd.upd hg hX hlen ?_ hnd hmem htag (fun q r v oc _ h1=>hval r oc h1),h.fix⟩
 ·intro s r oc _ _ h1
  obtain ⟨oc',h2,h3,h4,_⟩:=hsame r oc h1
  exact ⟨oc',h2,h3,h4⟩
 ·intro s r oc oc' hf hr h1 h2 h3
  obtain ⟨oc2,h4,_,_,h5⟩:=hsame r oc h1
  have hk:r ∉ ks:=fun hk=>by
   have:=aR.1 hf r hk
   exact this hr
  rw [h4] at h3
  injection h3 with h3
  subst h3
  rw [h5 hk]
  exact ⟨h2,fun h=>h⟩
 ·intro r ob oc h1 h2
  rcases hob r ob oc h1 h2 with ⟨h3,h4⟩|h3
  ·exact .inl ⟨h3,h4,fun _ _ h=>h⟩
  ·exact .inr h3
theorem aEc {α:Type} {f1 f0 f2:List α} (h:(f1 ++ f0 ++ f2).Nodup):(f1 ++ f2).Nodup/\f0.Nodup/\∀ b∈f0,b ∉ f1 ++ f2:=by
 rw [aI,aE] at h
 obtain ⟨h1,h2,h3⟩:=h
 rw [aE] at h2
 obtain ⟨h4,h5,h6⟩:=h2
 refine ⟨aE.2 ⟨h1,h5,fun a ha b hb=>h3 a ha b (by simp [hb])⟩,h4,fun b hb hm=>?_⟩
 rcases aH.1 hm with hm|hm
 ·exact h3 b hm b (by simp [hb]) rfl
 ·exact h6 b hb b hm rfl
section
variable {c : Ctx} {s : St} {C : List OC} {a : Act} {w : World}
theorem aOu {s:St} (ow:Bool) (r:Nat) {ob:Ob} (i:Option Nat) (p:List Nat) {es:Nat} {xs:D} (h1:s.o[r]?=some ob) (hp:kP ob i p=some (.sl ow es xs)) :
  jP s (fun v:Value=>⟨o4 [r] s.e,s.o.set r (eD ob i p (.lnk (s.o.length + 1) v)) ++ [.val (.sl ow es xs),.tag s.o.length v]⟩):=by
 intro c C a w h
 have hr:=cQ h1
 have hlen:=h.wd.len
 obtain ⟨oc,h2⟩:∃ oc,C[r]?=some oc:=⟨C[r]'(by omega),List.getElem?_eq_getElem _⟩
 have hrC:=cQ h2
 obtain ⟨f1,f0,f2,ds,hf,hrep,hset⟩:=wH (h.wd.obs r ob oc h1 h2) hp
 have hnC:=dO.1 h.wd.nodup
 have hocn:=hnC.1 r oc h2
 rw [hf] at hocn
 obtain ⟨n1,n2,n3⟩:=aEc hocn
 have hrep0:=hrep
 obtain ⟨_,av,cv,_,_,hds,_⟩:=hrep
 obtain ⟨v,rfl⟩:∃ v,ds=[v]:=⟨_,hds⟩
 have hone:=oC _ _ _ hrep0 v (by simp)
 let C':List OC:=C.set r { oc with fp:=f1 ++ [] ++ f2 } ++ [{ v:=v,blk:=0,fp:=f0 },{ v:=Go.undef,blk:=0,fp:=[] }]
 have hcase:∀ (j:Nat) (od:OC),C'[j]?=some od->(j=r/\od={ oc with fp:=f1 ++ [] ++ f2 })\/(j≠r/\j < C.length/\C[j]?=some od)\/(j=C.length/\od={ v:=v,blk:=0,fp:=f0 })\/(j=C.length + 1/\od={ v:=Go.undef,blk:=0,fp:=[] }):=by
  intro j od hj
  rcases fR hrC hj with ⟨e1,e2⟩|⟨e1,e2,e3⟩|⟨e1,e2⟩
  ·exact .inl ⟨e1,e2⟩
  ·exact .inr (.inl ⟨e1,e2,e3⟩)
  ·match hk:j - C.length,e2 with
   | 0,e2=>simp at e2; exact .inr (.inr (.inl ⟨by omega,e2.symm⟩))
   | 1,e2=>simp at e2; exact .inr (.inr (.inr ⟨by omega,e2.symm⟩))
   | k + 2,e2=>simp at e2
 have hin:∀ b∈f1 ++ f0 ++ f2,b∈oc.fp:=fun b hb=>by rw [hf]; exact hb
 have hsub:∀ b∈eW C',b∈eW C:=by
  intro b hb
  obtain ⟨j,od,hj,hb⟩:=c7.1 hb
  rcases hcase j od hj with ⟨_,rfl⟩|⟨_,_,hj⟩|⟨_,rfl⟩|⟨_,rfl⟩
  ·exact c7.2 ⟨r,oc,h2,hin b (by simp at hb ⊢; rcases hb with hb|hb<;>simp [hb])⟩
  ·exact c7.2 ⟨j,od,hj,hb⟩
  ·exact c7.2 ⟨r,oc,h2,hin b (by simp at hb ⊢; simp [hb])⟩
  ·cases hb
 have hM:∀ b,b < w.heap.size->Ms c C' b->Ms c C b:=fun b _ hb=>hb.imp id (hsub b)
 refine ⟨v,C',h.regroup [r] (by simp [C',hlen]) ?_ ?_ ?_ hsub ?_⟩
 ·intro j od hj
  have hjl:=cQ hj
  by_cases e:j=r
  ·subst e
   rw [h2] at hj
   injection hj with hj
   subst hj
   exact ⟨{ oc with fp:=f1 ++ [] ++ f2 },by rw [List.getElem?_append_left (by simpa using hrC),List.getElem?_set]; simp [hrC],rfl,rfl,fun hk=>absurd (by simp) hk⟩
  ·exact ⟨od,by rw [List.getElem?_append_left (by simpa using hjl),List.getElem?_set,if_neg (fun h=>e h.symm)]; exact hj,rfl,rfl,fun _=>rfl⟩
 ·intro j oj odj hj1 hj2
  rcases hcase j odj hj2 with ⟨e,rfl⟩|⟨e,el,hj⟩|⟨e,rfl⟩|⟨e,rfl⟩
  ·subst e
   rw [List.getElem?_append_left (by simpa using hr),List.getElem?_set] at hj1
   simp [hr] at hj1
   subst hj1
   exact .inr (hset (Ms c C') _ [] hM ⟨rfl,hone,rfl⟩)
  ·rw [List.getElem?_append_left (by simp; omega),List.getElem?_set,if_neg (fun h=>e h.symm)] at hj1
   exact .inl ⟨hj1,hj⟩
  ·subst e
   rw [<- hlen,List.getElem?_append_right (by simp)] at hj1
   simp at hj1
   subst hj1
   exact .inr ⟨[v],dZ (aD _) hM _ _ _ (fun _ _ _=>rfl) hrep0,rfl⟩
  ·subst e
   rw [<- hlen,List.getElem?_append_right (by simp)] at hj1
   simp at hj1
   subst hj1
   exact .inr rfl
 ·refine dO.2 ⟨fun j od hj=>?_,fun j k od oe hne hj hk b hb hb'=>?_⟩
  ·rcases hcase j od hj with ⟨_,rfl⟩|⟨_,_,hj⟩|⟨_,rfl⟩|⟨_,rfl⟩
   ·simpa using n1
   ·exact hnC.1 j od hj
   ·exact n2
   ·exact aL
  ·have other:∀ (k:Nat) (oe:OC),k≠r->C[k]?=some oe->∀ b∈f1 ++ f0 ++ f2,b ∉ oe.fp:=fun k oe hne hk b hb hb'=>hnC.2 r k oc oe (fun h=>hne h.symm) h2 hk b (hin b hb) hb'
   rcases hcase j od hj with ⟨ej,rfl⟩|⟨ej,_,hj⟩|⟨ej,rfl⟩|⟨ej,rfl⟩<;>rcases hcase k oe hk with ⟨ek,rfl⟩|⟨ek,_,hk⟩|⟨ek,rfl⟩|⟨ek,rfl⟩
   all_goals first
    | omega
    |(cases hb; done)
    |(cases hb'; done)
    | exact hnC.2 j k od oe hne hj hk b hb hb'
    | exact other k oe ek hk b (by simp at hb ⊢; first|exact .inr (.inl hb)|(rcases hb with hb|hb<;>simp [hb])) hb'
    | exact other j od ej hj b (by simp at hb' ⊢; first|exact .inr (.inl hb')|(rcases hb' with hb'|hb'<;>simp [hb'])) hb
    | exact n3 b hb (by simpa using hb')
    | exact n3 b hb' (by simpa using hb)
 ·intro q t u hq
  by_cases hql:q < s.o.length
  ·rw [List.getElem?_append_left (by simpa using hql),List.getElem?_set] at hq
   by_cases e:r=q
   ·rw [if_pos e,if_pos hr] at hq
    injection hq with hq
    exact absurd hq (zV ob i p _ _ hp t u)
   ·rw [if_neg e] at hq; exact .inl hq
  ·rw [List.getElem?_append_right (by simp; omega)] at hq
   match hk:q - s.o.length,hq with
   | 0,hq=>simp [hk] at hq
   | 1,hq =>
    simp [hk] at hq
    obtain ⟨rfl,rfl⟩:=hq
    exact .inr ⟨{ v:=v,blk:=0,fp:=f0 },by rw [hlen,List.getElem?_append_right (by simp)]; simp,rfl⟩
   | k + 2,hq=>simp [hk] at hq
theorem fL {s:St} (r:Nat) {ob:Ob} (i:Option Nat) (p:List Nat) {es:Nat} {xs:D} (h1:s.o[r]?=some ob) (hp:kP ob i p=some (.sl true es xs)) :
  jP s (fun v:Value=>⟨o4 [r] s.e,s.o.set r (eD ob i p (.lnk (s.o.length + 1) v)) ++ [.val (.sl true es xs),.tag s.o.length v]⟩):=aOu true r i p h1 hp
theorem iU {s:St} (r q n:Nat) {v:Value} {ob ob':Ob} (i:Option Nat) (p:List Nat) {ow:Bool} {es:Nat} {xs:D} (h1:s.o[r]?=some ob) (hp:kP ob i p=some (.lnk q v)) (hq:s.o[q]?=some (.tag n v))
  (hn:s.o[n]?=some (.val (.sl ow es xs))) (hne:r≠n) (hob:eD ob i p (.sl ow es xs)=ob') :
  gH s ⟨o4 [r,n] s.e,(s.o.set r ob').set n .dead⟩:=by
 subst hob
 intro c C a w h
 have hr:=cQ h1
 have hnl:=cQ hn
 have hlen:=h.wd.len
 obtain ⟨oc,h2⟩:∃ oc,C[r]?=some oc:=⟨C[r]'(by omega),List.getElem?_eq_getElem _⟩
 obtain ⟨on,h3⟩:∃ on,C[n]?=some on:=⟨C[n]'(by omega),List.getElem?_eq_getElem _⟩
 have hrC:=cQ h2
 have hnCl:=cQ h3
 obtain ⟨f1,f0,f2,ds,hf,hrep,hset⟩:=wH (h.wd.obs r ob oc h1 h2) hp
 obtain ⟨rfl,_,rfl⟩:=hrep
 obtain ⟨on',h4,hv⟩:=h.wd.tags q n v hq
 rw [h3] at h4
 injection h4 with h4
 subst h4
 obtain ⟨cs,h5,h6⟩:=h.wd.obs n _ on hn h3
 have hcs:cs=[v]:=by
  have h7:=h5
  obtain ⟨_,_,_,_,_,e,_⟩:=h7
  rw [e] at h6 ⊢
  simp only [gE,List.headD_cons] at h6
  rw [<- hv,h6]
 subst hcs
 have hnC:=dO.1 h.wd.nodup
 have hocn:=hnC.1 r oc h2
 rw [hf] at hocn
 simp only [aV] at hocn
 have hnn:=hnC.1 n on h3
 have hdis:∀ b∈oc.fp,b ∉ on.fp:=fun b hb hb'=>hnC.2 r n oc on hne h2 h3 b hb hb'
 let C':List OC:=(C.set r { oc with fp:=f1 ++ on.fp ++ f2 }).set n { on with fp:=[] }
 have hcase:∀ (j:Nat) (od:OC),C'[j]?=some od->(j=n/\od={ on with fp:=[] })\/(j=r/\od={ oc with fp:=f1 ++ on.fp ++ f2 })\/(j≠r/\j≠n/\C[j]?=some od):=by
  intro j od hj
  rw [List.getElem?_set] at hj
  by_cases e:n=j
  ·rw [if_pos e,if_pos (by simpa using hnCl)] at hj
   injection hj with hj; exact .inl ⟨e.symm,hj.symm⟩
  ·rw [if_neg e,List.getElem?_set] at hj
   by_cases e2:r=j
   ·rw [if_pos e2,if_pos hrC] at hj
    injection hj with hj; exact .inr (.inl ⟨e2.symm,hj.symm⟩)
   ·rw [if_neg e2] at hj; exact .inr (.inr ⟨fun h=>e2 h.symm,fun h=>e h.symm,hj⟩)
 have hin:∀ b∈f1 ++ f2,b∈oc.fp:=fun b hb=>by rw [hf]; simpa using hb
 have hsub:∀ b∈eW C',b∈eW C:=by
  intro b hb
  obtain ⟨j,od,hj,hb⟩:=c7.1 hb
  rcases hcase j od hj with ⟨_,rfl⟩|⟨_,rfl⟩|⟨_,_,hj⟩
  ·cases hb
  ·simp only [aH] at hb
   rcases hb with (hb|hb)|hb
   ·exact c7.2 ⟨r,oc,h2,hin b (by simp [hb])⟩
   ·exact c7.2 ⟨n,on,h3,hb⟩
   ·exact c7.2 ⟨r,oc,h2,hin b (by simp [hb])⟩
  ·exact c7.2 ⟨j,od,hj,hb⟩
 have hM:∀ b,b < w.heap.size->Ms c C' b->Ms c C b:=fun b _ hb=>hb.imp id (hsub b)
 refine ⟨C',h.regroup [r,n] (by simp [C',hlen]) ?_ ?_ ?_ hsub ?_⟩
 ·intro j od hj
  have hjl:=cQ hj
  by_cases e:n=j
  ·subst e
   rw [h3] at hj; injection hj with hj; subst hj
   exact ⟨{ on with fp:=[] },by rw [List.getElem?_set]; simp [hnCl],rfl,rfl,fun hk=>absurd (by simp) hk⟩
  ·by_cases e2:r=j
   ·subst e2
    rw [h2] at hj; injection hj with hj; subst hj
    exact ⟨{ oc with fp:=f1 ++ on.fp ++ f2 },by rw [List.getElem?_set,if_neg e,List.getElem?_set]; simp [hrC],rfl,rfl,fun hk=>absurd (by simp) hk⟩
   ·exact ⟨od,by rw [List.getElem?_set,if_neg e,List.getElem?_set,if_neg e2]; exact hj,rfl,rfl,fun _=>rfl⟩
 ·intro j oj odj hj1 hj2
  rcases hcase j odj hj2 with ⟨e,rfl⟩|⟨e,rfl⟩|⟨e1,e2,hj⟩
  ·subst e
   rw [List.getElem?_set] at hj1
   simp [hnl] at hj1
   subst hj1
   exact .inr rfl
  ·subst e
   rw [List.getElem?_set,if_neg (fun h=>hne h.symm),List.getElem?_set] at hj1
   simp [hr] at hj1
   subst hj1
   exact .inr (hset (Ms c C') _ on.fp hM (dZ (aD _) hM _ _ _ (fun _ _ _=>rfl) h5))
  ·rw [List.getElem?_set,if_neg (fun h=>e2 h.symm),List.getElem?_set,if_neg (fun h=>e1 h.symm)] at hj1
   exact .inl ⟨hj1,hj⟩
 ·have hnew:(f1 ++ on.fp ++ f2).Nodup:=by
   obtain ⟨m1,m2,m3⟩:=aE.1 hocn
   rw [aI]
   refine aE.2 ⟨m1,aE.2 ⟨hnn,m2,fun x hx y hy e=>?_⟩,fun x hx y hy e=>?_⟩
   ·subst e; exact hdis x (hin x (by simp [hy])) hx
   ·subst e
    rcases aH.1 hy with hy|hy
    ·exact hdis x (hin x (by simp [hx])) hy
    ·exact m3 x hx x hy rfl
  refine dO.2 ⟨fun j od hj=>?_,fun j k od oe hne' hj hk b hb hb'=>?_⟩
  ·rcases hcase j od hj with ⟨_,rfl⟩|⟨_,rfl⟩|⟨_,_,hj⟩
   ·exact aL
   ·exact hnew
   ·exact hnC.1 j od hj
  ·have other:∀ (k:Nat) (oe:OC),k≠r->k≠n->C[k]?=some oe->∀ b∈f1 ++ on.fp ++ f2,b ∉ oe.fp:=by
    intro k oe e1 e2 hk b hb hb'
    simp only [aH] at hb
    rcases hb with (hb|hb)|hb
    ·exact hnC.2 r k oc oe (fun h=>e1 h.symm) h2 hk b (hin b (by simp [hb])) hb'
    ·exact hnC.2 n k on oe (fun h=>e2 h.symm) h3 hk b hb hb'
    ·exact hnC.2 r k oc oe (fun h=>e1 h.symm) h2 hk b (hin b (by simp [hb])) hb'
   rcases hcase j od hj with ⟨ej,rfl⟩|⟨ej,rfl⟩|⟨ej,ej',hj⟩<;>rcases hcase k oe hk with ⟨ek,rfl⟩|⟨ek,rfl⟩|⟨ek,ek',hk⟩
   all_goals first
    | omega
    |(cases hb; done)
    |(cases hb'; done)
    | exact hnC.2 j k od oe hne' hj hk b hb hb'
    | exact other k oe ek ek' hk b hb hb'
    | exact other j od ej ej' hj b hb' hb
 ·intro q' t u hq'
  rw [List.getElem?_set] at hq'
  by_cases e:n=q'
  ·rw [if_pos e,if_pos (by simpa using hnl)] at hq'
   cases hq'
  ·rw [if_neg e,List.getElem?_set] at hq'
   by_cases e2:r=q'
   ·rw [if_pos e2,if_pos hr] at hq'
    injection hq' with hq'; exact absurd hq' (zV ob i p _ _ hp t u)
   ·rw [if_neg e2] at hq'; exact .inl hq'
theorem freeze {s:St} (r:Nat) {ob ob':Ob} (i:Option Nat) (p:List Nat) {x:D} (h1:s.o[r]?=some ob) (hp:kP ob i p=some x) (hob:eD ob i p x.unown=ob') :
  gH s ⟨o4 [r] s.e,s.o.set r ob'⟩:=by
 subst hob
 intro c C a w h
 have hr:=cQ h1
 have hlen:=h.wd.len
 obtain ⟨oc,h2⟩:∃ oc,C[r]?=some oc:=⟨C[r]'(by omega),List.getElem?_eq_getElem _⟩
 have hrC:=cQ h2
 obtain ⟨f1,f0,f2,ds,hf,hrep,hset⟩:=wH (h.wd.obs r ob oc h1 h2) hp
 have hnC:=dO.1 h.wd.nodup
 have hocn:=hnC.1 r oc h2
 rw [hf] at hocn
 obtain ⟨n1,n2,n3⟩:=aEc hocn
 have hin:∀ b∈f1 ++ f0 ++ f2,b∈oc.fp:=fun b hb=>by rw [hf]; exact hb
 let C':List OC:=C.set r { oc with fp:=f1 ++ [] ++ f2 }
 have hcase:∀ (j:Nat) (od:OC),C'[j]?=some od->(j=r/\od={ oc with fp:=f1 ++ [] ++ f2 })\/(j≠r/\C[j]?=some od):=by
  intro j od hj
  rw [List.getElem?_set] at hj
  by_cases e2:r=j
  ·rw [if_pos e2,if_pos hrC] at hj
   injection hj with hj; exact .inl ⟨e2.symm,hj.symm⟩
  ·rw [if_neg e2] at hj; exact .inr ⟨fun h=>e2 h.symm,hj⟩
 have hsub:∀ b∈eW C',b∈eW C/\b ∉ f0:=by
  intro b hb
  obtain ⟨j,od,hj,hb⟩:=c7.1 hb
  rcases hcase j od hj with ⟨_,rfl⟩|⟨e,hj⟩
  ·simp at hb
   exact ⟨c7.2 ⟨r,oc,h2,hin b (by simp; rcases hb with hb|hb<;>simp [hb])⟩,fun h=>n3 b h (by simpa using hb)⟩
  ·exact ⟨c7.2 ⟨j,od,hj,hb⟩,fun h=>hnC.2 r j oc od (fun h=>e h.symm) h2 hj b (hin b (by simp [h])) hb⟩
 have hM:∀ b,b < w.heap.size->Ms c C' b->Ms c C b:=fun b _ hb=>hb.imp id fun h=>(hsub b h).1
 refine ⟨C',h.regroup [r] (by simp [C',hlen]) ?_ ?_ ?_ (fun b hb=>(hsub b hb).1) ?_⟩
 ·intro j od hj
  by_cases e2:r=j
  ·subst e2
   rw [h2] at hj; injection hj with hj; subst hj
   exact ⟨{ oc with fp:=f1 ++ [] ++ f2 },by rw [List.getElem?_set]; simp [hrC],rfl,rfl,fun hk=>absurd (by simp) hk⟩
  ·exact ⟨od,by rw [List.getElem?_set,if_neg e2]; exact hj,rfl,rfl,fun _=>rfl⟩
 ·intro j oj odj hj1 hj2
  rcases hcase j odj hj2 with ⟨e,rfl⟩|⟨e1,hj⟩
  ·subst e
   rw [List.getElem?_set] at hj1
   simp [hr] at hj1
   subst hj1
   refine .inr (hset (Ms c C') _ [] hM (gT _ _ _ (fun b hb=>?_) (fun b hb hm=>?_) hrep))
   ·exact hb.imp id fun h=>(hsub b h).1
   ·rcases hm with hm|hm
    ·exact h.wd.apart b (c7.2 ⟨j,oc,h2,hin b (by simp [hb])⟩) hm
    ·exact (hsub b hm).2 hb
  ·rw [List.getElem?_set,if_neg (fun h=>e1 h.symm)] at hj1
   exact .inl ⟨hj1,hj⟩
 ·refine dO.2 ⟨fun j od hj=>?_,fun j k od oe hne hj hk b hb hb'=>?_⟩
  ·rcases hcase j od hj with ⟨_,rfl⟩|⟨_,hj⟩
   ·simpa using n1
   ·exact hnC.1 j od hj
  ·rcases hcase j od hj with ⟨ej,rfl⟩|⟨ej,hj⟩<;>rcases hcase k oe hk with ⟨ek,rfl⟩|⟨ek,hk⟩
   ·omega
   ·exact hnC.2 r k oc oe (fun h=>ek h.symm) h2 hk b (hin b (by simp at hb ⊢; rcases hb with hb|hb<;>simp [hb])) hb'
   ·exact hnC.2 r j oc od (fun h=>ej h.symm) h2 hj b (hin b (by simp at hb' ⊢; rcases hb' with hb'|hb'<;>simp [hb'])) hb
   ·exact hnC.2 j k od oe hne hj hk b hb hb'
 ·intro q' t u hq'
  rw [List.getElem?_set] at hq'
  by_cases e2:r=q'
  ·rw [if_pos e2,if_pos hr] at hq'
   injection hq' with hq'; exact absurd hq' (zV ob i p _ _ hp t u)
  ·rw [if_neg e2] at hq'; exact .inl hq'
end
section
variable {P : PG} {s : St} {o : List Ob} {E : Nat -> SV} {K : SV -> Prop} {KK : SV -> St -> Prop} {KN : Nat -> Nat -> Prop}
theorem aJA {es:Nat} {x:Opd} {lo hi:Option Opd}:eS P o E (.slx es x lo hi) K=jM o es (iC E x) (s6 E lo) (s6 E hi) K:=propext aB
theorem aJX {es:Nat} {x:Opd}:eS P o E (.sl0 es x) K=mX o es (iC E x) K:=propext aB
theorem aKS {x y:Opd}:eS P o E (.shr x y) K=rX (iC E x) (iC E y) K:=propext aB
theorem aJR {n:Nat} {x:Opd}:eS P o E (.ldv n x) K=mW o n (iC E x) K:=propext aB
@[congr] theorem aND {o o' : List Ob} {n : Nat} {x x' : SV} (ho : o = o') (hx : x = x') : mW o n x K = mW o' n x' K := by rw [ho, hx]
def onW (b:Bool) (A B:Prop):Prop:=(b=true->A)/\(b=false->B)
@[congr] theorem aTx {b b' : Bool} {A B : Prop} (h : b = b') : onW b A B = onW b' A B := by rw [h]
theorem aL0 {A B:Prop}:onW true A B=A:=propext ⟨fun h=>h.1 rfl,fun h=>⟨fun _=>h,fun h=>(by cases h)⟩⟩
theorem aLd {A B:Prop}:onW false A B=B:=propext ⟨fun h=>h.2 rfl,fun h=>⟨fun h=>(by cases h),fun _=>h⟩⟩
theorem aWj {n:Nat} {x:D}:mW o n (.d x) K=kO o (some n) (.d x) K:=propext aB
theorem aR2 {n r es i off:Nat} {p:List Nat}:mW o n (.el r es i off p) K=kO o (some n) (.el r es i off p) K:=propext aB
theorem aOt {n r off:Nat} {p:List Nat}:mW o n (.ptr r off p) K=j5 (x7 o r) fun z=>jS (fB p z=off) (j5 (gG p z) fun y=>onW y.noOwn (eI o (some n) y K) (jS (p=[]) (jS (y.size=n) (jS (y.isStB=true) (K (.vw r)))))):=by
 apply propext
 simp only [mW,j5]
 have st:∀ y:D,(∃ ys,y=.st ys)↔y.isStB=true:=by
  intro y
  constructor
  ·rintro ⟨ys,rfl⟩; rfl
  ·intro h; cases y<;>first|exact ⟨_,rfl⟩|cases h
 constructor
 ·rintro ⟨z,hz,ho,y,hy,h1,h2⟩
  exact ⟨z,iT.2 hz,ho,y,hy,h1,fun hn=>⟨(h2 hn).1,(h2 hn).2.1,(st y).1 (h2 hn).2.2.1,(h2 hn).2.2.2⟩⟩
 ·rintro ⟨z,hz,ho,y,hy,h1,h2⟩
  exact ⟨z,iT.1 hz,ho,y,hy,h1,fun hn=>⟨(h2 hn).1,(h2 hn).2.1,(st y).2 (h2 hn).2.2.1,(h2 hn).2.2.2⟩⟩
theorem aJB {m es:Nat} {x i:Opd}:eS P o E (.iar m es x i) K=pD m es (iC E x) (iC E i) K:=propext aB
@[congr] theorem aNP {m es : Nat} {x x' i i' : SV} (hx : x = x') (hi : i = i') : pD m es x i K = pD m es x' i' K := by rw [hx, hi]
theorem aUO {m es:Nat} {xs:D} {k:IntKind} {n:Int}:pD m es (.d (.ptr (.st xs))) (.d (.int k n)) K=jS (0<=n/\n < (m:Int)) (jS (xs.pre n.toNat=n.toNat * es) (j5 (xs.nth n.toNat) fun y=>K (.d (.ptr y)))):=propext aB
theorem aOg {m es r off:Nat} {p:List Nat} {k:IntKind} {n:Int}:pD m es (.ptr r off p) (.d (.int k n)) K=jS (0<=n/\n < (m:Int)) (K (.ptr r (off + n.toNat * es) (p ++ [n.toNat]))):=propext aB
theorem aMw {neg:Bool} {ks:List Nat} {x y:Opd}:eS P o E (.sq neg ks x y) K=vW neg ks (iC E x) (iC E y) K:=propext aB
@[congr] theorem aP2 {neg : Bool} {ks : List Nat} {x x' y y' : SV} (hx : x = x') (hy : y = y') : vW neg ks x y K = vW neg ks x' y' K := by rw [hx, hy]
theorem aWR {neg:Bool} {ks:List Nat} {a b:D}:vW neg ks (.d (.st a)) (.d (.st b)) K=j5 (uW ks a b) fun r=>K (.d (.bool (if neg then !r else r))):=propext aB
theorem aJ8 {x:Opd}:eS P o E (.b2s x) K=rN o (iC E x) K:=propext aB
@[congr] theorem aNF {o o' : List Ob} {es : Nat} {x x' : SV} {lo lo' hi hi' : Option SV} (ho : o = o') (hx : x = x') (hl : lo = lo') (hh : hi = hi') : jM o es x lo hi K = jM o' es x' lo' hi' K := by rw [ho, hx, hl, hh]
@[congr] theorem aNA {o o' : List Ob} {es : Nat} {x x' : SV} (ho : o = o') (hx : x = x') : mX o es x K = mX o' es x' K := by rw [ho, hx]
@[congr] theorem aNE {x x' y y' : SV} (hx : x = x') (hy : y = y') : rX x y K = rX x' y' K := by rw [hx, hy]
@[congr] theorem aNB {o o' : List Ob} {x x' : SV} (ho : o = o') (hx : x = x') : rN o x K = rN o' x' K := by rw [ho, hx]
@[congr] theorem aPH {lo lo' hi hi' : Option SV} {n n' : Nat} (hl : lo = lo') (hh : hi = hi') (hn : n = n') : j8 lo hi n KN = j8 lo' hi' n' KN := by rw [hl, hh, hn]
theorem aV7 {es es':Nat} {xs:D} {lo hi:Option SV}:jM o es (.d (.sl false es' xs)) lo hi K=jS (es'=es) (j8 lo hi xs.len fun a b=>K (.d (.sl false es (xs.sub a b)))):=propext aB
theorem aN5 {es:Nat} {lo hi:Option SV}:jM o es .nil lo hi K=j8 lo hi 0 fun _ _=>K .nil:=propext aB
def aFg (o:List Ob) (r es:Nat):Option (Bool×D):=match nQ o r with
 | some (.sl ow es' xs)=>if es'=es then some (ow,xs) else none
 | _=>none
theorem u7 {r es:Nat} {ow:Bool} {xs:D}:aFg o r es=some (ow,xs)↔o[r]?=some (.val (.sl ow es xs)):=by
 unfold aFg
 split
 ·rename_i ow' es' xs' h
  rw [gS] at h
  split
  ·rename_i he
   subst he
   rw [h]
   simp only [Option.some.injEq,Prod.mk.injEq,Ob.val.injEq,D.sl.injEq,true_and]
  ·rename_i he
   rw [h]
   constructor
   ·intro h; cases h
   ·intro h; injection h with h; injection h with h; injection h with _ h2 _; exact absurd h2 he
 ·rename_i h
  constructor
  ·intro h; cases h
  ·intro h2; exact absurd (gS.2 h2) (h _ _ _)
theorem aOw {es r:Nat} {lo hi:Option SV}:jM o es (.own r) lo hi K=j5 (aFg o r es) fun x=>pG r es x.1 x.2 lo hi K:=by
 apply propext
 simp only [jM,j5]
 constructor
 ·rintro ⟨ow,xs,h,hk⟩; exact ⟨(ow,xs),u7.2 h,hk⟩
 ·rintro ⟨⟨ow,xs⟩,h,hk⟩; exact ⟨ow,xs,u7.1 h,hk⟩
def aDT (s:St) (es:Nat) (z:D) (x:SV) (KK:SV->St->Prop):Prop:=match x with
 | .win r es' lo=>es'=es/\∃ xs,s.o[r]?=some (.val (.sl true es xs))/\KK .any ⟨l8 (f9 r) s.e,s.o.set r (.val (.sl true es (aH2 lo z xs)))⟩
 | _=>False
theorem aVF {es:Nat} {z:D} {x:Opd}:fP P s (.clr es z x) KK=aDT s es z (nC s.e x) KK:=by
 simp only [fP,aDT]
 all_goals
  generalize nC s.e x=q
  match q with
  | .d _=>rfl
  | .undef=>rfl
  | .any=>rfl
  | .nil=>rfl
  | .own _=>rfl
  | .ptr _ _ _=>rfl
  | .el _ _ _ _ _=>rfl
  | .vw _=>rfl
  | .win _ _ _=>rfl
  | .tup _=>rfl
@[congr] theorem aQw {s s' : St} {es : Nat} {z : D} {x x' : SV} (hs : s = s') (hx : x = x') : aDT s es z x KK = aDT s' es z x' KK := by rw [hs, hx]
theorem aO3 {es es' r lo:Nat} {z:D}:aDT s es z (.win r es' lo) KK=jS (es'=es) (j5 (aGi s.o r es) fun xs=>KK .any ⟨l8 (f9 r) s.e,s.o.set r (.val (.sl true es (aH2 lo z xs)))⟩):=by
 apply propext
 simp only [aDT,jS,j5]
 constructor
 ·rintro ⟨h,xs,h1,hk⟩; exact ⟨h,xs,kR.2 h1,hk⟩
 ·rintro ⟨h,xs,h1,hk⟩; exact ⟨h,xs,kR.1 h1,hk⟩
theorem aUd {es:Nat} {x hi:Opd}:fP P s (.cut es x hi) KK=nZ s es (nC s.e x) (nC s.e hi) KK:=propext aB
@[congr] theorem aNL {s s' : St} {es : Nat} {x x' hi hi' : SV} (hs : s = s') (hx : x = x') (hh : hi = hi') : nZ s es x hi KK = nZ s' es x' hi' KK := by rw [hs, hx, hh]
theorem aTJ {es:Nat} {y:D} {hi:SV}:nZ s es (.d y) hi KK=jM s.o es (.d y) none (some hi) fun sv=>KK sv s:=propext aB
theorem aNZ {es:Nat} {hi:SV}:nZ s es .nil hi KK=jM s.o es .nil none (some hi) fun sv=>KK sv s:=propext aB
theorem aQa {es r:Nat} {hi:SV}:nZ s es (.own r) hi KK=j5 (aFg s.o r es) fun x=>pC s r es x.1 x.2 hi KK:=by
 apply propext
 simp only [nZ,j5]
 constructor
 ·rintro ⟨ow,xs,h,hk⟩; exact ⟨(ow,xs),u7.2 h,hk⟩
 ·rintro ⟨⟨ow,xs⟩,h,hk⟩; exact ⟨ow,xs,u7.1 h,hk⟩
@[congr] theorem aNz {s s' : St} {r es : Nat} {ow ow' : Bool} {xs xs' : D} {hi hi' : SV} (hs : s = s') (ho : ow = ow') (hx : xs = xs') (hh : hi = hi') : pC s r es ow xs hi KK = pC s' r es ow' xs' hi' KK := by rw [hs, ho, hx, hh]
theorem aV4 {r es:Nat} {xs:D} {hi:SV}:pC s r es false xs hi KK=j8 none (some hi) xs.len fun a b=>KK (.d (.sl false es (xs.sub a b))) s:=by unfold pC; rfl
theorem aUK {r es:Nat} {xs:D} {k:IntKind} {b:Int}:pC s r es true xs (.d (.int k b)) KK=jS (0<=b/\b<=xs.len) (onV fun v=>KK (.own s.o.length) ⟨l8 (f9 r) s.e,s.o.set r (.val (.lnk 0 v)) ++ [.val (.sl true es (xs.takeD b.toNat))]⟩):=propext aB
@[congr] theorem aNO {r es : Nat} {ow ow' : Bool} {xs xs' : D} {lo lo' hi hi' : Option SV} (ho : ow = ow') (hx : xs = xs') (hl : lo = lo') (hh : hi = hi') : pG r es ow xs lo hi K = pG r es ow' xs' lo' hi' K := by rw [ho, hx, hl, hh]
theorem aWe {r es:Nat} {xs:D} {lo hi:Option SV}:pG r es false xs lo hi K=j8 lo hi xs.len fun a b=>K (.d (.sl false es (xs.sub a b))):=by
 unfold pG; rfl
theorem aV6 {r es:Nat} {xs:D} {k:IntKind} {a:Int}:pG r es true xs (some (.d (.int k a))) none K=jS (0<=a/\a < xs.len) (K (.win r es a.toNat)):=propext aB
theorem aSG {n:Nat}:j8 none none n KN=KN 0 n:=propext aB
theorem aUW {n:Nat} {k:IntKind} {a:Int}:j8 (some (.d (.int k a))) none n KN=jS (0<=a/\a<=n) (KN a.toNat n):=propext aB
theorem aUH {n:Nat} {k:IntKind} {b:Int}:j8 none (some (.d (.int k b))) n KN=jS (0<=b/\b<=n) (KN 0 b.toNat):=propext aB
theorem aS3 {n:Nat} {k k':IntKind} {a b:Int}:j8 (some (.d (.int k a))) (some (.d (.int k' b))) n KN=jS (0<=a/\a<=b/\b<=n) (KN a.toNat b.toNat):=propext aB
theorem aWb {es es':Nat} {ow:Bool} {xs:D}:mX o es (.d (.sl ow es' xs)) K=K (.d (.sl true es .nil)):=propext aB
theorem aQf {es:Nat}:mX o es .nil K=K .nil:=propext aB
theorem aPK {es r:Nat}:mX o es (.own r) K=j5 (lenOf o r) fun _=>K (.d (.sl true es .nil)):=by
 apply propext
 simp only [mX,j5,lenOf]
 constructor
 ·rintro ⟨⟨es',xs,ow,h⟩,hk⟩
  exact ⟨xs.len,by rw [gS.2 h],hk⟩
 ·rintro ⟨n,h,hk⟩
  split at h
  ·rename_i ow es' xs h1
   exact ⟨⟨es',xs,ow,gS.1 h1⟩,hk⟩
  ·cases h
theorem aUZ {k k':IntKind} {a n:Int}:rX (.d (.int k a)) (.d (.int k' n)) K=jS (0<=n) (K (.d (.int k (a.fdiv (2 ^ (min n.toNat k.bits)))))):=propext aB
theorem aO2:rN o .nil K=K (.d (.str [])):=propext aB
theorem aSv {s:List UInt8}:mS (.d (.str s)) none none K=K (.d (.str s)):=propext aB
theorem aVo {s:List UInt8} {k:IntKind} {a:Int}:mS (.d (.str s)) (some (.d (.int k a))) none K=jS (0<=a/\a<=s.length) (K (.d (.str (s.drop a.toNat)))):=propext and_assoc.symm
theorem aWo {s:List UInt8} {k:IntKind} {b:Int}:mS (.d (.str s)) none (some (.d (.int k b))) K=jS (0<=b/\b<=s.length) (K (.d (.str (s.take b.toNat)))):=propext and_assoc.symm
theorem aSU {s:List UInt8} {k k':IntKind} {a b:Int}:mS (.d (.str s)) (some (.d (.int k a))) (some (.d (.int k' b))) K=jS (0<=a/\a<=b/\b<=s.length) (K (.d (.str ((s.take b.toNat).drop a.toNat)))) :=
 propext ⟨fun ⟨h1,h2,h3,h4⟩=>⟨⟨h1,h2,h3⟩,h4⟩,fun ⟨⟨h1,h2,h3⟩,h4⟩=>⟨h1,h2,h3,h4⟩⟩
def y7 (g:FuncId) (xs:Option D) (K:SV->Prop):Prop:=j5 xs fun xs=>K (.d (.clo g xs))
theorem aHb {g:FuncId} {caps:List Opd}:eS P o E (.clos g caps) K=y7 g (aAx (evL E caps)) K:=by
 rw [aIf]
 apply propext
 simp only [eS,y7,j5]
 constructor
 ·intro h
  split at h
  ·rename_i xs hx; exact ⟨xs,hx,h⟩
  ·exact h.elim
 ·rintro ⟨xs,hx,h⟩
  rw [hx]; exact h
@[congr] theorem aOy {g : FuncId} {xs xs' : Option D} (h : xs = xs') : y7 g xs K = y7 g xs' K := by rw [h]
theorem aMd {g:FuncId} {xs:D}:y7 g (some xs) K=K (.d (.clo g xs)):=by simp [y7,j5]
def aA5 (P:PG) (o:List Ob) (f:SV) (as:List SV) (K:SV->Prop):Prop:=match f with
 | .d (.clo g xs)=>(fX P.P g=true/\xs.caps=true)/\∃ ds rs,gY o as ds/\Fn P g (ds ++ xs.list) (fun qs=>qs=rs)/\(as.all isD=true\/rs.all D.allOwn=true)/\K (sU (rs.map D.unown))
 | _=>False
theorem aFw {f:Opd} {args:List Opd}:eS P o E (.callV f args) K=aA5 P o (iC E f) (evL E args) K:=by
 rw [aIf]
 simp only [eS,aA5]
 all_goals
  generalize iC E f=q
  match q with
  | .d (.bool _)=>rfl
  | .d (.int _ _)=>rfl
  | .d (.str _)=>rfl
  | .d (.err _)=>rfl
  | .d (.sl _ _ _)=>rfl
  | .d (.st _)=>rfl
  | .d (.ptr _)=>rfl
  | .d (.clo _ _)=>rfl
  | .d (.lnk _ _)=>rfl
  | .d .nil=>rfl
  | .d (.cons _ _)=>rfl
  | .undef=>rfl
  | .any=>rfl
  | .nil=>rfl
  | .own _=>rfl
  | .ptr _ _ _=>rfl
  | .el _ _ _ _ _=>rfl
  | .vw _=>rfl
  | .win _ _ _=>rfl
  | .tup _=>rfl
@[congr] theorem aNC {o o' : List Ob} {f f' : SV} {as as' : List SV} (ho : o = o') (hf : f = f') (h : as = as') : aA5 P o f as K = aA5 P o' f' as' K := by rw [ho, hf, h]
def yW (P:PG) (s:St) (f:SV) (as:List SV) (KK:SV->St->Prop):Prop:=match f with
 | .d (.clo g xs)=>(fX P.P g=true/\xs.caps=true)/\∃ ds R,gY s.o as ds/\Fn P g (ds ++ xs.list) R/\∀ rs,R rs->(as.all isD=true\/rs.all D.allOwn=true)/\KK (l9 (dU rs s.o).1) ⟨s.e,(dU rs s.o).2⟩
 | _=>False
theorem aPD {f:Opd} {args:List Opd}:fP P s (.callW f args) KK=yW P s (nC s.e f) (jO s.e args) KK:=by
 simp only [fP,yW]
 all_goals
  generalize nC s.e f=q
  match q with
  | .d (.bool _)=>rfl
  | .d (.int _ _)=>rfl
  | .d (.str _)=>rfl
  | .d (.err _)=>rfl
  | .d (.sl _ _ _)=>rfl
  | .d (.st _)=>rfl
  | .d (.ptr _)=>rfl
  | .d (.clo _ _)=>rfl
  | .d (.lnk _ _)=>rfl
  | .d .nil=>rfl
  | .d (.cons _ _)=>rfl
  | .undef=>rfl
  | .any=>rfl
  | .nil=>rfl
  | .own _=>rfl
  | .ptr _ _ _=>rfl
  | .el _ _ _ _ _=>rfl
  | .vw _=>rfl
  | .win _ _ _=>rfl
  | .tup _=>rfl
@[congr] theorem aNy {s s' : St} {f f' : SV} {as as' : List SV} (hs : s = s') (hf : f = f') (h : as = as') : yW P s f as KK = yW P s' f' as' KK := by rw [hs, hf, h]
theorem uV {g:FuncId} {xs:D} {as:List SV} {ds rs:List D} (hf:Fn P g (ds ++ xs.list) (fun qs=>qs=rs)) (he:fX P.P g=true) (hc:xs.caps=true) (ha:dA s.o as=some ds) (hd:(as.all isD || rs.all D.allOwn)=true) (hk:KK (l9 (dU rs s.o).1) ⟨s.e,(dU rs s.o).2⟩):yW P s (.d (.clo g xs)) as KK :=
 ⟨⟨he,hc⟩,ds,_,nF ha,hf,fun qs h=>by subst h; exact ⟨by simpa using hd,hk⟩⟩
theorem aLp {es es' bytes:Nat} {ys:D} {kr:List Nat} {K:SV->List Ob->List Nat->Option Nat->Prop}:p9 es bytes o (.d (.sl true es' .nil)) ys kr K=jS (es'=es) (jS (ys.len * bytes<=140737488355328/\ys.len<=9223372036854775807) (K (.own o.length) (o ++ [.val (.sl true es ys)]) kr none)):=propext aB
theorem oO {α:Type} {f:α->D} (xs:List α) (a b:Nat):(dl f xs).sub a b=dl f ((xs.take b).drop a):=by
 unfold D.sub dl
 rw [iH,aAk,List.map_drop,List.map_take]
end
section
def aH0:D->Option Value
 | .int k n=>some (.int k n)
 | .bool b=>some (.bool b)
 | .str s=>some (.string ⟨s.toArray⟩)
 | _=>none
def rM:List D->Option (List Value)
 | []=>some []
 | d :: ds=>match aH0 d,rM ds with
  | some v,some vs=>some (v :: vs)
  | _,_=>none
theorem aCb {w:World} {M:Nat->Prop} {d:D} {v:Value} (h:aH0 d=some v):(∀ cs fp,d.rep w M cs fp->gE d cs=v/\fp=[])/\d.rep w M [v] []/\gE d [v]=v:=by
 cases d<;>simp only [aH0] at h<;>first
  |(injection h with h; subst h; exact ⟨fun cs fp hr=>⟨by rw [hr.1]; rfl,hr.2⟩,⟨rfl,rfl⟩,rfl⟩)
  | cases h
theorem aCL {w:World} {M:Nat->Prop}:∀ {ds:List D} {vs us:List Value},rM ds=some vs->eM w M ds us []->us=vs
 | [],vs,us,h,hr=>by injection h with h; rw [hr.1,<-h]
 | d :: ds,vs,us,h,hr=>by
  obtain ⟨cs,us',f1,f2,rfl,hf,h1,h2⟩:=hr
  obtain ⟨rfl,rfl⟩:=List.append_eq_nil_iff.1 hf.symm
  unfold rM at h
  split at h
  ·rename_i v vs' hv hvs
   injection h with h
   rw [<- h,((aCb hv).1 cs [] h1).1,aCL hvs h2]
  ·cases h
theorem uF {w:World} {M:Nat->Prop}:∀ {rs:List D} {us:List Value},rM rs=some us->eM w M rs us []
 | [],us,h=>by injection h with h; exact ⟨h.symm,rfl⟩
 | d :: ds,us,h=>by
  unfold rM at h
  split at h
  ·rename_i v vs' hv hvs
   injection h with h
   obtain ⟨_,h2,h3⟩:=aCb (w:=w) (M:=M) hv
   exact ⟨[v],vs',[],[],by rw [<- h,h3],rfl,h2,uF hvs⟩
  ·cases h
theorem aHV {P:PG} {f:FuncId} {ds rs:List D} {vs us:List Value} (hd:rM ds=some vs) (hr:rM rs=some us) (h:∀ w,P.F w->Calls P.P f vs.toArray w fun e w'=>e=.returned (qY us)/\kN w w'):Fn P f ds (fun qs=>qs=rs):=by
 intro M vs' w hM hg hvs
 rw [aCL hd hvs]
 refine (h w hg.fact).mono ?_
 rintro e w' ⟨rfl,hx⟩
 exact ⟨rs,us,[],rfl,rfl,uF hr,aL,(fun b hb=>by cases hb),hx⟩
theorem kN.drewN {w:World} (n:Nat):kN w (w.drewN n):=⟨rfl,rfl,rfl,aD _,fun _ _=>rfl⟩
end
theorem eM.unown {w:World} {M M':Nat->Prop}:∀ (ds:List D) (vs:List Value) (fp:List Nat),(∀ b,M' b->M b)->(∀ b∈fp,¬ M' b)->eM w M ds vs fp->eM w M' (ds.map D.unown) vs []
 | [],vs,fp,h1,h2,h=>⟨h.1,rfl⟩
 | d :: ds,vs,fp,h1,h2,h=>by
  obtain ⟨cs,us,f1,f2,rfl,rfl,h3,h4⟩:=h
  exact ⟨cs,us,[],[],by rw [mI],rfl,gT d cs f1 h1 (fun b hb=>h2 b (List.mem_append_left _ hb)) h3,eM.unown ds us f2 h1 (fun b hb=>h2 b (List.mem_append_right _ hb)) h4⟩
theorem fH {P:PG} {f:FuncId} {ds rs:List D} (h:Fn P f ds (fun qs=>qs=rs)):Fn P f ds (fun qs=>qs=rs.map D.unown):=by
 intro M vs w hM hG hv
 refine Calls.mono (h M vs w hM hG hv) ?_
 rintro e w' ⟨rs',us,fp,he,rfl,hr,hn,hb,hx⟩
 exact ⟨_,us,[],he,rfl,eM.unown _ _ _ (fun b h=>.inl (h.resolve_right (by simp))) (fun b hb' h=>by
  rcases h with h|h
  ·have:=hM b h; have:=hb b hb'; omega
  ·simp at h) hr,by simp,by simp,hx⟩
def aIM (s:St) (x:SV) (KK:SV->St->Prop):Prop:=match x with
 | .d (.str bs)=>KK (.own s.o.length) ⟨s.e,s.o ++ [.val (.sl true 1 (lJ bs))]⟩
 | _=>False
theorem aUC {P:PG} {s:St} {x:Opd} {KK:SV->St->Prop}:fP P s (.s2b x) KK=aIM s (nC s.e x) KK:=propext aB
theorem aTX {s:St} {bs:List UInt8} {KK:SV->St->Prop}:aIM s (.d (.str bs)) KK=KK (.own s.o.length) ⟨s.e,s.o ++ [.val (.sl true 1 (lJ bs))]⟩:=propext aB
@[congr] theorem aQ4 {s s' : St} {x x' : SV} {KK : SV -> St -> Prop} (hs : s = s') (hx : x = x') : aIM s x KK = aIM s' x' KK := by rw [hs, hx]
theorem aTa {P:PG} {s:St} {neg:Bool} {x:Opd} {KK:SV->St->Prop}:fP P s (.snil neg x) KK=kV s.o neg (nC s.e x) fun sv=>KK sv s:=propext aB
theorem aMt {o:List Ob} {neg:Bool} {K:SV->Prop}:kV o neg .nil K=K (.d (.bool (!neg))):=propext aB
theorem aSJ {o:List Ob} {neg ow:Bool} {es:Nat} {xs:D} {K:SV->Prop}:kV o neg (.d (.sl ow es xs)) K=aFm neg xs.len K:=propext aB
theorem aLR {o:List Ob} {neg:Bool} {r:Nat} {K:SV->Prop}:kV o neg (.own r) K=j5 (lenOf o r) fun n=>aFm neg n K:=by
 apply propext
 simp only [kV,j5,lenOf]
 constructor
 ·rintro ⟨es,xs,ow,h,hk⟩
  exact ⟨xs.len,by rw [gS.2 h],hk⟩
 ·rintro ⟨n,h,hk⟩
  split at h
  ·rename_i ow es xs h1
   injection h with h
   subst h
   exact ⟨es,xs,ow,gS.1 h1,hk⟩
  ·cases h
theorem aHG {neg:Bool} {n:Nat} {K:SV->Prop} (h1:n=0->K (.d (.bool (!neg)))) (h2:K (.d (.bool neg))):aFm neg n K:=⟨h1,h2⟩
@[congr] theorem aMi {o o' : List Ob} {neg : Bool} {x x' : SV} {K : SV -> Prop} (ho : o = o') (hx : x = x') : kV o neg x K = kV o' neg x' K := by rw [ho, hx]
@[congr] theorem aR3 {neg : Bool} {n n' : Nat} {K : SV -> Prop} (h : n = n') : aFm neg n K = aFm neg n' K := by rw [h]
def aMq (o:List Ob) (r:Nat):Option (List (List UInt8×Int)):=match o[r]? with
 | some (.mp kvs)=>some kvs
 | _=>none
theorem aGm {o:List Ob} {r:Nat} {kvs:List (List UInt8×Int)}:aMq o r=some kvs↔o[r]?=some (.mp kvs):=by
 unfold aMq; split
 ·rename_i h; rw [h]; simp
 ·rename_i h; constructor
  ·intro h; cases h
  ·intro h2; exact absurd h2 (h _)
theorem aUG {P:PG} {s:St} {KK:SV->St->Prop}:fP P s .mkm KK=KK (.own s.o.length) ⟨s.e,s.o ++ [.mp []]⟩:=propext aB
theorem aVP {P:PG} {s:St} {m k v:Opd} {KK:SV->St->Prop}:fP P s (.ins m k v) KK=rU s (nC s.e m) (nC s.e k) (nC s.e v) KK:=propext aB
theorem aTD {P:PG} {s:St} {m k:Opd} {KK:SV->St->Prop}:fP P s (.lkp m k) KK=sL s (nC s.e m) (nC s.e k) KK:=propext aB
@[congr] theorem aNG {s s' : St} {m m' k k' v v' : SV} {KK : SV -> St -> Prop} (h : s = s') (h1 : m = m') (h2 : k = k') (h3 : v = v') : rU s m k v KK = rU s' m' k' v' KK := by rw [h, h1, h2, h3]
@[congr] theorem aNQ {s s' : St} {m m' k k' : SV} {KK : SV -> St -> Prop} (h : s = s') (h1 : m = m') (h2 : k = k') : sL s m k KK = sL s' m' k' KK := by rw [h, h1, h2]
theorem aPq {s:St} {r:Nat} {b:List UInt8} {n:Int} {KK:SV->St->Prop}:rU s (.own r) (.d (.str b)) (.d (.int .i64 n)) KK=j5 (aMq s.o r) fun kvs=>jS (lkp kvs b=none) (KK .undef ⟨l8 (f9 r) s.e,s.o.set r (.mp (kvs ++ [(b,n)]))⟩):=by
 apply propext
 simp only [rU,j5,jS,aGm]
theorem aOX {s:St} {r:Nat} {b:List UInt8} {KK:SV->St->Prop}:sL s (.own r) (.d (.str b)) KK=j5 (aMq s.o r) fun kvs=>KK (.tup [.d (.int .i64 ((lkp kvs b).getD 0)),.d (.bool (lkp kvs b).isSome)]) s:=by
 apply propext
 simp only [sL,j5,aGm]
end Go.Pe
set_option maxRecDepth 100000
namespace Go.Pe
open Go Go.RowKit
def wA0:=aA @aIb (aA @aJK (aA @aKc (aA @aKQ (aA @aIr (aA @aGU (aA @aHH (aA @aHf (aA @aFl (aA @aN6 (aA @aPQ (aA @aOB (aA @aVr (aA @aUm (aA @aU5 (aA @aKL (aA @aNv (aA @aOW (aA @aIi (aA @aF3 (aA @aMr (aA @aLE (aA @aLk (aA @aOc (aA @aOG (aA @aJD (aA @aHc (aA @aFC (aA @aEE (aA @aKv (aA @aMQ (aA @aLM (aA @aMV (aA @aKw (aA @aMW (aA @aLH (aA @aMe (aA @aL3 (aA @aKA (@aJI)))))))))))))))))))))))))))))))))))))))
def wA1:=aA @aHi (aA @aK7 (aA @aLY (aA @aGd (aA @aIx (aA @aOo (aA @aPZ (aA @aPF (aA @aOv (aA @aOU (aA @aOJ (aA @aSF (aA @aPS (aA @aOF (aA @aP1 (aA @aPL (aA @aPn (aA @aQe (aA @aPW (aA @aN3 (aA @aPR (aA @aPG (aA @aPj (aA @aN4 (aA @aOi (aA @aSl (aA @aSx (aA @aRZ (aA @aSw (aA @aS2 (aA @aSs (aA @aOD (aA @aVv (aA @aOp (aA @aSt (aA @aP7 (aA @aN7 (aA @aTN (aA @aWJ (@aSR)))))))))))))))))))))))))))))))))))))))
def wA2:=aA @aSS (aA @aPf (aA @aMl (aA @aSk (aA @aVW (aA @aUS (aA @aWV (aA @aSi (aA @aVc (aA @aWH (aA @aTl (aA @aUx (aA @aSC (aA @aTd (aA @aLF (aA @aO1 (aA @aK0 (aA @aLD (aA @aWa (aA @aQk (aA @aWL (aA @aUb (aA @aWB (aA @aUT (aA @aN2 (aA @aPs (aA @aWD (aA @aSn (aA @aKz (aA @w6 (aA @aM2 (aA @aMA (aA @aR8 (aA @aNd (aA @aMb (aA @aQj (aA @aP9 (aA @aVb (aA @aOY (@aVg)))))))))))))))))))))))))))))))))))))))
def wA3:=aA @aNr (aA @aT6 (aA @aWd (aA @aNX (aA @aS4 (aA @aSV (aA @aL9 (aA @aSp (aA @aLo (aA @aSj (aA @aSc (aA @aSY (aA @aM3 (aA @cK (aA @aSg (aA @aWO (aA @aWN (aA @aTg (aA @aJA (aA @aJX (aA @aKS (aA @aJ8 (aA @aV7 (aA @aN5 (aA @aSG (aA @aUW (aA @aUH (aA @aS3 (aA @aWb (aA @aQf (aA @aPK (aA @aUZ (aA @aO2 (aA @aSv (aA @aVo (aA @aWo (aA @aSU (aA @aHb (aA @aMd (@aFw)))))))))))))))))))))))))))))))))))))))
def wA4:=aA @aPD (aA @aLp (aA @aKP (aA @aIa (aA @aPY (aA @aLO (aA @aLQ (aA @aLL (aA @aPx (aA @aOk (aA @aPE (aA @aTa (aA @aMt (aA @aSJ (aA @aLR (aA @aOw (aA @aWe (aA @aV6 (aA @aVF (aA @aO3 (aA @aUd (aA @aTJ (aA @aNZ (aA @aQa (aA @aV4 (aA @aUK (aA @aMw (aA @aWR (aA @aUC (aA @aTX (aA @aJB (aA @aUO (aA @aOg (aA @aJR (aA @aWj (aA @aR2 (aA @aOt (aA @aL0 (aA @aLd (@aUG)))))))))))))))))))))))))))))))))))))))
def wA5:=aA @aVP (aA @aTD (aA @aPq (@aOX)))
def wA:=aA @wA0 (aA @wA1 (aA @wA2 (aA @wA3 (aA @wA4 (@wA5)))))
def wC0:=aA @aAu.eq_1 (aA @aAu.eq_2 (aA @aAu.eq_3 (aA @aAu.eq_4 (aA @aAu.eq_5 (aA @look.eq_1 (aA @look.eq_2 (aA @kU.eq_1 (@kU.eq_2))))))))
def wC:=@wC0
def wB0:=aA @aMo (aA @aOf (aA @aLA (aA @aOI (aA @aOS (aA @aSH (aA @aTo (aA @aPd (aA @aOl (aA @aY (aA @Nat.add_zero (aA @Bool.false_eq_true (aA @Bool.true_eq_false (aA @Bool.not_true (aA @Bool.not_false (aA @Bool.and_true (aA @Bool.true_and (aA @Bool.and_false (aA @Bool.false_and (aA @Bool.or_false (aA @Bool.false_or (aA @Bool.or_true (aA @aP (aA @true_and (aA @and_true (aA @SV.own.injEq (aA @SV.ptr.injEq (aA @not_false_eq_true (aA @not_true_eq_false (aA @decide_true (aA @decide_false (aA @Option.some.injEq.{0} (aA @List.getElem?_cons_zero.{0} (aA @List.getElem?_cons_succ.{0} (aA @List.getElem?_nil.{0} (aA @aO.{0} (aA @List.set_cons_succ.{0} (aA @List.length_cons.{0} (aA @List.length_nil.{0} (@List.length_append.{0})))))))))))))))))))))))))))))))))))))))
def wB1:=aA @List.cons_append.{0} (aA @List.nil_append.{0} (aA @aV.{0} (aA @aN.{0} (aA @List.any_nil.{0} (aA @List.all_cons.{0} (aA @List.all_nil.{0} (aA @List.map_cons.{0,0} (aA @List.map_nil.{0,0} (aA @if_true.{0} (aA @if_false.{0} (aA @beq_self_eq_true.{0} (aA @ne_eq.{0} (aA @eq_self.{0} (aA @beq_iff_eq.{0} (aA @aI.{0} (aA @aW.{0,0} (aA @Option.map_none.{0,0} (aA @List.contains_nil.{0} (aA @aQ.{0} (aA @evL.eq_1 (aA @evL.eq_2 (aA @jO.eq_1 (aA @jO.eq_2 (aA @lA.eq_1 (aA @lA.eq_2 (aA @jY.eq_1 (aA @iK.eq_1 (aA @iC.eq_1 (aA @iC.eq_2 (aA @nC.eq_1 (aA @nC.eq_2 (aA @s6.eq_1 (aA @s6.eq_2 (aA @lT.eq_1 (aA @lT.eq_2 (aA @mD.eq_1 (aA @mD.eq_2 (aA @x7.eq_1 (@nQ.eq_1)))))))))))))))))))))))))))))))))))))))
def wB2:=aA @aGi.eq_1 (aA @aFg.eq_1 (aA @aI7.eq_1 (aA @elS.eq_1 (aA @elS.eq_2 (aA @aGN.eq_1 (aA @lenOf.eq_1 (aA @fM.eq_1 (aA @fM.eq_2 (aA @l8.eq_1 (aA @l8.eq_2 (aA @tQ.eq_1 (aA @tQ.eq_2 (aA @fO.eq_1 (aA @fO.eq_2 (aA @jB.eq_1 (aA @jB.eq_2 (aA @jB.eq_3 (aA @jB.eq_4 (aA @jB.eq_5 (aA @jB.eq_6 (aA @f9.eq_1 (aA @f9.eq_2 (aA @f9.eq_3 (aA @dU.eq_1 (aA @dU.eq_2 (aA @l9.eq_1 (aA @l9.eq_2 (aA @sU.eq_1 (aA @sU.eq_2 (aA @D.pre.eq_1 (aA @D.pre.eq_2 (aA @D.nth.eq_1 (aA @D.nth.eq_2 (aA @D.nth.eq_3 (aA @D.size.eq_1 (aA @D.size.eq_2 (aA @D.size.eq_3 (aA @D.size.eq_4 (@D.len.eq_1)))))))))))))))))))))))))))))))))))))))
def wB3:=aA @D.len.eq_2 (aA @gG.eq_1 (aA @gG.eq_2 (aA @gG.eq_3 (aA @fB.eq_1 (aA @fB.eq_2 (aA @fB.eq_3 (aA @j7.eq_1 (aA @j7.eq_2 (aA @j7.eq_3 (aA @D.setN.eq_1 (aA @D.setN.eq_2 (aA @D.setN.eq_3 (aA @D.noOwn.eq_1 (aA @D.noOwn.eq_2 (aA @D.noOwn.eq_3 (aA @D.noOwn.eq_4 (aA @D.noOwn.eq_5 (aA @D.noOwn.eq_6 (aA @D.unown.eq_1 (aA @D.unown.eq_2 (aA @D.unown.eq_3 (aA @D.unown.eq_4 (aA @D.unown.eq_5 (aA @D.unown.eq_6 (aA @D.app.eq_1 (aA @D.app.eq_2 (aA @i6.eq_1 (aA @i6.eq_2 (aA @List.replicate.eq_1.{0} (aA @List.replicate.eq_2.{0} (aA @aJa.eq_1 (aA @aMq.eq_1 (aA @pL.eq_1 (aA @pL.eq_2 (aA @pL.eq_3 (aA @unT.eq_1 (aA @unT.eq_2 (aA @aGL.eq_1 (@aGL.eq_2)))))))))))))))))))))))))))))))))))))))
def wB4:=aA @aAx.eq_1 (aA @aAx.eq_2 (aA @aAx.eq_3 (aA @D.isOne.eq_1 (aA @D.isOne.eq_2 (aA @D.isOne.eq_3 (aA @D.isOne.eq_4 (aA @D.caps.eq_1 (aA @D.caps.eq_2 (aA @D.caps.eq_3 (aA @D.list.eq_1 (aA @D.list.eq_2 (aA @o4.eq_1 (aA @o4.eq_2 (aA @cR.eq_1 (aA @cR.eq_2 (aA @c8.eq_1 (aA @c8.eq_2 (aA @c8.eq_3 (aA @c8.eq_4 (aA @c8.eq_5 (aA @c8.eq_6 (aA @c8.eq_7 (aA @c8.eq_8 (aA @c8.eq_9 (aA @wE.eq_1 (aA @aCa.eq_1 (aA @aCa.eq_2 (aA @wO.eq_1 (aA @wO.eq_2 (aA @wO.eq_3 (aA @uW.eq_1 (aA @uW.eq_2 (aA @uW.eq_3 (aA @uW.eq_4 (aA @uW.eq_5 (aA @qR.eq_1 (aA @qR.eq_2 (aA @p7.eq_1 (@p7.eq_2)))))))))))))))))))))))))))))))))))))))
def wB5:=aA @y9.eq_1 (aA @pM.eq_1 (aA @pM.eq_2 (aA @aPC.eq_1 (aA @aPC.eq_2 (aA @vJ.eq_1 (aA @vJ.eq_2 (aA @vJ.eq_3 (aA @vJ.eq_4 (aA @eqO.eq_1 (aA @eqO.eq_2 (aA @aBi.eq_1 (aA @aBi.eq_2 (aA @wS.eq_1 (aA @r4.eq_1 (aA @r4.eq_2 (@r4.eq_3))))))))))))))))
def wB:=aA @wB0 (aA @wB1 (aA @wB2 (aA @wB3 (aA @wB4 (@wB5)))))
theorem dV {P:PG} {s:St} {Q:Exit->St->Prop} {x:MC} (n:Nat) (S:Nat->St) (inv:Nat->Prop) (h0:gH s (S 0)) (hi:inv 0)
  (step:∀ i,i < n->inv i->decide ((i:Int) < (n:Int))=true->(0:Int)<=(i:Int)->eP P x (S i) (pO (fun s'=>∃ y,gH s' (S y)/\(y<=n/\inv y)/\n - y < n - i) Q))
  (done:inv n->decide ((n:Int) < (n:Int))=false->eP P x (S n) (pO (fun s'=>∃ y,gH s' (S y)/\(y<=n/\inv y)/\n - y < n - n) Q)):eP P (.loop x) s Q:=by
 refine eK S (fun i=>i<=n/\inv i) (fun i=>n - i) 0 h0 ⟨aS _,hi⟩ ?_
 rintro i ⟨h1,h2⟩
 by_cases h:i < n
 ·exact step i h h2 (decide_eq_true (by omega)) (by omega)
 ·have e:i=n:=by omega
  subst e
  exact done h2 (decide_eq_false (by omega))
theorem e7 {s':St} {n i:Nat} {S:Nat->St} {inv:Nat->Prop} (hw:gH s' (S (i + 1))) (hi:i < n) (h:inv (i + 1)):∃ y,gH s' (S y)/\(y<=n/\inv y)/\n - y < n - i:=⟨i + 1,hw,⟨by omega,h⟩,by omega⟩
theorem tL {P:PG} {s:St} {Q:Exit->St->Prop} {x:MC} (ts:List (Nat×Nat)) (n:Nat) (S:Nat->St) (inv:Nat->Prop) (hn:aFI ts s) (h0:gH (aLj ts s) (S 0)) (hi:inv 0)
  (step:∀ i,i < n->inv i->decide ((i:Int) < (n:Int))=true->(0:Int)<=(i:Int)->eP P x (S i) (pO (fun s'=>∃ y,gH s' (S y)/\(y<=n/\inv y)/\n - y < n - i) Q))
  (done:inv n->decide ((n:Int) < (n:Int))=false->eP P x (S n) (pO (fun s'=>∃ y,gH s' (S y)/\(y<=n/\inv y)/\n - y < n - n) Q)):eP P (.loop x) s Q:=by
 refine aCH ts S (fun i=>i<=n/\inv i) (fun i=>n - i) 0 hn h0 ⟨aS _,hi⟩ ?_
 rintro i ⟨h1,h2⟩
 by_cases h:i < n
 ·exact step i h h2 (decide_eq_true (by omega)) (by omega)
 ·have e:i=n:=by omega
  subst e
  exact done h2 (decide_eq_false (by omega))
theorem yG {p:Nat->Prop} {i:Nat} (h:∀ j,j < i->p j) (hi:p i):∀ j,j < i + 1->p j:=fun j hj=>by
 by_cases e:j=i
 ·subst e; exact hi
 ·exact h j (by omega)
def cT (q:Nat) (y:D):SV->SV
 | .ptr r off p=>if r=q then (if off=0/\p=[] then .d (.ptr y) else .any) else .ptr r off p
 | s=>if fO q s then .any else s
def cU (q:Nat) (y:D):iN->iN
 | []=>[]
 |(t,s) :: e=>(t,cT q y s) :: cU q y e
theorem aCs (q:Nat) (y:D):∀ (e:iN) (t:Nat),look (cU q y e) t=cT q y (look e t)
 | [],t=>by simp [cU,look,cT,fO,jB]
 |(k,s) :: e,t=>by
  simp only [cU,look]
  by_cases h:k=t
  ·simp only [h,if_true]
  ·simp only [h,if_false]; exact aCs q y e t
theorem gJ {s:St} (q:Nat) {x:D} (hq:s.o[q]?=some (.box x)):gH s ⟨cU q x.unown s.e,s.o.set q .dead⟩:=by
 intro c C a w hr
 focus
  have hql:=cQ hq
  have hlen:=hr.wd.len
  obtain ⟨oc,hC⟩:∃ oc,C[q]?=some oc:=⟨C[q]'(by omega),List.getElem?_eq_getElem _⟩
  have hCl:=cQ hC
  have hnC:=dO.1 hr.wd.nodup
  let C':=C.set q { oc with fp:=[] }
  have get:∀ (j:Nat) (od:OC),C'[j]?=some od->(j=q/\od={ oc with fp:=[] })\/(j≠q/\C[j]?=some od):=by
   intro j od hj
   rw [List.getElem?_set] at hj
   by_cases e:q=j
   ·rw [if_pos e,if_pos (by omega)] at hj; injection hj with hj; exact .inl ⟨e.symm,hj.symm⟩
   ·rw [if_neg e] at hj; exact .inr ⟨fun h=>e h.symm,hj⟩
  have hsub:∀ b∈eW C',b∈eW C/\b ∉ oc.fp:=by
   intro b hb
   obtain ⟨j,od,hj,hb'⟩:=c7.1 hb
   rcases get j od hj with ⟨_,rfl⟩|⟨hne,hj⟩
   ·cases hb'
   ·exact ⟨c7.2 ⟨j,od,hj,hb'⟩,fun h=>hnC.2 j q od oc hne hj hC b hb' h⟩
  have hmem:∀ b∈eW C',(b∈eW C\/w.heap.size<=b)/\b < w.heap.size:=fun b hb=>⟨.inl (hsub b hb).1,hr.wd.lt b (hsub b hb).1⟩
  have hg:=aX4 (kN.refl w) (fun _=>False)
  have hX:∀ b,(fun _=>False:Nat->Prop) b->b∈eW C:=fun b hb=>hb.elim
  have hwd:RelW c (s.o.set q .dead) C' w:=by
   have hold:∀ (p r:Nat) (v:Value),(s.o.set q .dead)[p]?=some (.tag r v)->s.o[p]?=some (.tag r v):=by
    intro p r v hp
    rw [List.getElem?_set] at hp
    by_cases e:q=p
    ·rw [if_pos e] at hp
     split at hp
     ·injection hp with hp; cases hp
     ·cases hp
    ·rw [if_neg e] at hp; exact hp
   refine hr.wd.upd hg hX (by simp [C',hlen]) ?_ ?_ hmem (fun p r v hp=>.inl (hold p r v hp)) (fun p r v od _ h=>by
    by_cases e:q=r
    ·subst e
     rw [hC] at h
     injection h with h
     subst h
     exact ⟨{ oc with fp:=[] },by rw [List.getElem?_set]; simp [hCl],rfl⟩
    ·exact ⟨od,by rw [List.getElem?_set,if_neg e]; exact h,rfl⟩)
   ·intro j ob ocj h1 h2
    rcases get j ocj h2 with ⟨e,rfl⟩|⟨hne,h3⟩
    ·rw [e,List.getElem?_set,if_pos rfl,if_pos hql] at h1
     injection h1 with h1
     subst h1
     exact .inr rfl
    ·rw [List.getElem?_set,if_neg (fun h=>hne h.symm)] at h1
     exact .inl ⟨h1,h3,fun _ _ h=>h⟩
   ·refine dO.2 ⟨fun j od hj=>?_,fun j i od oe hne hj hi b hb hb'=>?_⟩
    ·rcases get j od hj with ⟨_,rfl⟩|⟨_,hj⟩
     ·exact aL
     ·exact hnC.1 j od hj
    ·rcases get j od hj with ⟨_,rfl⟩|⟨_,hj⟩
     ·cases hb
     ·rcases get i oe hi with ⟨_,rfl⟩|⟨_,hi⟩
      ·cases hb'
      ·exact hnC.2 j i od oe hne hj hi b hb hb'
  refine ⟨C',hr.tmps,hr.defers,fun t=>?_,hwd,hr.fix⟩
  simp only [aCs]
  have hv:=hr.env t
  generalize look s.e t=sv at *
  generalize a.tmps.getD t Go.undef=v at *
  have other:∀ sv:SV,(∀ xs,sv≠.tup xs)->jB q sv=false->dM w (Ms c C) C sv v->dM w (Ms c C') C' sv v:=by
   intro sv hn h0 hv
   refine rC (f7.upd (X:=fun _=>False) hg hX hmem ?_ ?_ ?_)
   ·intro r od h1 h2
    have hne:r≠q:=fun e=>by rw [e,h0] at h1; cases h1
    exact ⟨od,by rw [List.getElem?_set,if_neg (fun h=>hne h.symm)]; exact h2,rfl,rfl⟩
   ·intro r od od' h1 h2 h3 h4
    subst h1
    have hne:r≠q:=fun e=>by rw [e] at h0; simp [jB] at h0
    rw [List.getElem?_set,if_neg (fun h=>hne h.symm),h2] at h4
    injection h4 with h4
    subst h4
    exact ⟨h3,fun h=>h⟩
   ·cases sv<;>first|exact hv|exact absurd rfl (hn _)
  cases sv with
  | ptr r off p =>
   simp only [cT]
   by_cases e:r=q
   ·subst e
    rw [if_pos rfl]
    by_cases e2:off=0/\p=[]
    ·rw [if_pos e2]
     obtain ⟨rfl,rfl⟩:=e2
     obtain ⟨oc1,h1,h2⟩:=hv
     rw [hC] at h1
     injection h1 with h1
     subst h1
     obtain ⟨cs,fps,h3,h4,h5⟩:=hr.wd.obs r _ oc hq hC
     subst h2
     have hblk:¬ Ms c C' oc.blk:=by
      rintro (hm|hm)
      ·exact hr.wd.apart oc.blk (c7.2 ⟨r,oc,hC,by rw [h5]; simp⟩) hm
      ·exact (hsub oc.blk hm).2 (by rw [h5]; simp)
     refine nE (gT _ _ _ ?_ ?_ h4) (i8.of_row h3 hblk)
     ·intro b hb
      rcases hb with hb|hb
      ·exact .inl hb
      ·exact .inr (hsub b hb).1
     ·intro b hb hm
      rcases hm with hm|hm
      ·exact hr.wd.apart b (c7.2 ⟨r,oc,hC,by rw [h5]; simp [hb]⟩) hm
      ·exact (hsub b hm).2 (by rw [h5]; simp [hb])
    ·rw [if_neg e2]; trivial
   ·rw [if_neg e]
    exact other _ (fun xs h=>by cases h) (by simp [jB,e]) hv
  | tup xs =>
   simp only [cT]
   split
   ·trivial
   ·rename_i h0
    obtain ⟨vs,k1,k2,k3⟩:=hv
    refine ⟨vs,k1,k2,fun i sx u hsi hu=>?_⟩
    have hx0:jB q sx=false:=by
     simp only [fO,aT,not_exists,not_and,Bool.not_eq_true] at h0
     exact h0 sx (aM hsi)
    refine f7.upd (X:=fun _=>False) hg hX hmem ?_ ?_ (k3 i sx u hsi hu)
    ·intro r od h1 h2
     have hne:r≠q:=fun e=>by rw [e,hx0] at h1; cases h1
     exact ⟨od,by rw [List.getElem?_set,if_neg (fun h=>hne h.symm)]; exact h2,rfl,rfl⟩
    ·intro r od od' h1 h2 h3 h4
     subst h1
     have hne:r≠q:=fun e=>by rw [e] at hx0; simp [jB] at hx0
     rw [List.getElem?_set,if_neg (fun h=>hne h.symm),h2] at h4
     injection h4 with h4
     subst h4
     exact ⟨h3,fun h=>h⟩
  | any=>trivial
  | undef=>exact hv
  | d y=>exact other _ (fun xs h=>by cases h) rfl hv
  | nil=>exact hv
  | own r =>
   simp only [cT]
   split
   ·trivial
   ·rename_i h0; exact other _ (fun xs h=>by cases h) (by simpa [fO] using h0) hv
  | el r es i off p =>
   simp only [cT]
   split
   ·trivial
   ·rename_i h0; exact other _ (fun xs h=>by cases h) (by simpa [fO] using h0) hv
  | vw r =>
   simp only [cT]
   split
   ·trivial
   ·rename_i h0; exact other _ (fun xs h=>by cases h) (by simpa [fO] using h0) hv
  | win r es lo =>
   simp only [cT]
   split
   ·trivial
   ·rename_i h0; exact other _ (fun xs h=>by cases h) (by simpa [fO] using h0) hv
theorem aHE {s:St} (q:Nat) {x:D} (hq:s.o[q]?=some (.val x)):gH s ⟨v6 q x.unown s.e,s.o.set q .dead⟩:=fun c C a w hr=>by
 have h:=aBh q hr
 unfold aFV at h
 rw [hq] at h
 exact h
section
variable {P : Program} {n r : Nat} {ops : Array Oper} {Q : Exit -> Act -> World -> Prop}
def pP (ops:Array Oper):Bool:=ops.all fun o=>match o.op with
 | .defer _=>false
 | _=>true
theorem aVI {o:Oper} {a:Act} {w:World} {K:Act->World->Prop} (hd:∀ c,o.op≠.defer c) (h:o.wp P a w K Q):o.wpIn (Fence.wide.inRound r) n P a w K Q:=by
 refine ⟨fun f _=>trivial,?_⟩
 rw [Oper.semAt_plain _ _ _ hd]
 unfold Oper.wp at h
 generalize (execOp a.eval o).run P w=x at h ⊢
 have hdep:(Fence.wide.inRound r).depth.isSome=true->1<=n:=fun h=>by cases h
 cases x with
 | ok y w' =>
  cases y with
  | value v=>exact h
  | skip=>exact h
  | defer d=>exact h
  | enter f args=>exact ⟨hdep,CallsIn.inRound r (callsIn_wide.2 h)⟩
  | row row args=>exact ⟨hdep,fun c cs _=>by obtain ⟨v,w2,h1,h2⟩:=h c cs; exact ⟨v,w2,h1,stepsIn_wide.2 h2⟩⟩
  | round l f t as bd=>exact h.elim
  | _=>exact h
 | halt hv w' =>
  cases hv<;>exact h
theorem aBR (hd:pP ops=true) (hQ:∀ a w,¬ Q .outgrown a w):∀ (l:List Nat) (a:Act) (w:World),wpOps P ops Q l a w->wpOpsIn (Fence.wide.inRound r) n P ops Q l a w
 | [],a,w,h=>h
 | i :: l,a,w,h=>by
  simp only [wpOps] at h
  simp only [wpOpsIn]
  cases ho:ops[i]? with
  | none=>rw [ho] at h; exact aBR hd hQ l a w h
  | some o =>
   rw [ho] at h
   simp only at h ⊢
   have hdo:∀ c,o.op≠.defer c:=fun c e=>by
    have:=Array.all_eq_true.1 hd i (by have:=(Array.getElem?_eq_some_iff.1 ho).1; exact this)
    rw [(Array.getElem?_eq_some_iff.1 ho).2,e] at this
    cases this
   split
   ·rename_i hw
    rw [if_pos hw] at h
    rcases h with h|⟨_,a0,w0,h⟩
    ·exact Oper.wpIn_mono (fun a' w' h'=>aBR hd hQ l a' w' h') (aVI hdo h)
    ·exact absurd h (hQ a0 w0)
   ·rename_i hw
    rw [if_neg hw] at h
    exact ⟨fun f _=>trivial,aBR hd hQ l _ w h⟩
theorem vM {id:Nat} {a:Act} {w:World} (hd:pP ops=true) (hQ:∀ a w,¬ Q .outgrown a w) (hm:P.follows .mixedOrders=true)
  (h:wpAny P .any ops Q ops.size (Array.replicate ops.size false) a { w with drawn:=w.drawn + 1 }):(Code.region id ops true).wpIn (Fence.wide.inRound r) n P Q a w :=
 wpIn_region_draw fun t=>by
  simp only [Region.schedule,hm,aP,if_true]
  exact aBR hd hQ _ _ _ (wpAny_sound ops.size t _ a _ h)
theorem aBn {id:Nat} {a:Act} {w:World} (hd:pP ops=true) (hQ:∀ a w,¬ Q .outgrown a w) (h:wpList P ops Q ops.toList a w):(Code.region id ops false).wpIn (Fence.wide.inRound r) n P Q a w :=
 wpIn_region (aBR hd hQ _ _ _ (by rw [List.range_eq_range',<-Array.length_toList,wpOps_eq_wpList ops.toList 0 (by simp)]; exact h))
end
section
variable {c : Ctx} {ob : List Ob} {C : List OC} {E : Nat -> SV} {a : Act} {w : World} {s : St} {ops : Array Oper} {r n : Nat}
theorem aAj {id:Nat} {Q:Exit->Act->World->Prop} {Q':(Nat->SV)->Prop} (hnd:pP ops=true) (hno:∀ a w,¬ Q .outgrown a w) (hm:c.P.follows .mixedOrders=true) (hB:Region.lexB .any ops=true) (hd:∀ (j:Nat) (o:Oper) (d:Nat),ops[j]?=some o->o.dst=some d->c.lo<=d/\d < c.n)
  (hr:RelE c ob C E a w) (h:aBA c ob C ops Q' ops.toList E) (hQ:∀ E a w,RelE c ob C E a w->Q' E->Q .normal a w):(Code.region id ops true).wpIn (Fence.wide.inRound r) n c.P Q a w:=by
 simp only [Region.lexB,aC] at hB
 refine vM hnd hno hm (w7 (Q:=Q') hd hQ _ _ E _ _ ?_ ?_)
 ·have hx:kN w { w with drawn:=w.drawn + 1 }:=⟨rfl,rfl,rfl,aD _,fun _ _=>rfl⟩
  exact ⟨hr.tmps,hr.defers,fun t=>(hr.env t).ext hx,hr.wd.ext hx,hr.fix⟩
 ·have:=vV (c:=c) (ob:=ob) (C:=C) (md:=.any) ops.toList 0 (Array.replicate ops.size false) E (by simp) (by simpa using hB.2) h
  simpa using this
theorem aCl {ts un:List Nat} {p:MP} {id:Nat} {K:St->Prop} {Q:Act->World->Prop} (hnd:pP ops=true) (hp:aAa c.P c.nn ops ts=some (un,p)) (hr:Rel c s C a w) (hx:g7 c.G un p [] s K) (hQ:∀ s C a w,Rel c s C a w->K s->Q a w):(Code.region id ops true).wpIn (Fence.wide.inRound r) n c.P (fun e a w=>e=.normal/\Q a w) a w:=by
 unfold aAa at hp
 split at hp
 ·cases hp
 ·rename_i k r
  split at hp
  ·rename_i sk hd
   split at hp
   ·rename_i hc
    simp only [aC,decide_eq_true_eq] at hc
    obtain ⟨⟨⟨h1,h2⟩,h3⟩,h4⟩:=hc
    obtain ⟨p',hp1,hp2⟩:=aJ.1 hp
    injection hp2 with e1 e2
    subst e1 e2
    have hx2:kN w { w with drawn:=w.drawn + 1 }:=⟨rfl,rfl,rfl,aD _,fun _ _=>rfl⟩
    have hr':Rel c s C a { w with drawn:=w.drawn + 1 }:=⟨hr.tmps,hr.defers,fun t=>(hr.env t).ext hx2,hr.wd.ext hx2,hr.fix⟩
    have:=(aCy (c:=c) (ops:=ops) (un:=r.take k) (K:=K) (Q:=fun e a w=>e=.normal/\Q a w) h2 (fun s C a w h1 h2=>⟨rfl,hQ s C a w h1 h2⟩) (fun ch a w h=>by cases h.1) sk p' true true _ ops.size [] s C a _ (fun _=>False) h3 hp1 h4 hr' (fun _ b hb=>hb.elim) hx).1 rfl
    exact vM hnd (fun a w h=>by cases h.1) h1 (wW _ _ _ _ this)
   ·cases hp
  ·cases hp
end
def kT:Code->Bool
 | .skip=>true
 | .region _ ops _=>pP ops
 | .seq a b=>kT a && kT b
 | .cond _ a b=>kT a && kT b
 | .block _ b=>kT b
 | .exit _=>true
 | _=>false
def vR:MC->Bool
 | .skip=>true
 | .reg _ _ _=>true
 | .any _ _ _=>true
 | .seq a b=>vR a && vR b
 | .cond _ a b=>vR a && vR b
 | .block _ b=>vR b
 | .exit _=>true
 | .gh m=>vR m
 | _=>false
def aR7 (c:Ctx) (r:Nat) (m:MC) (s:St) (Q:Exit->St->Prop):Prop :=
 ∀ n lv code,comp c.P c.nn lv code=some m->kT code=true->∀ C a w,Rel c s C a w->code.wpIn (Fence.wide.inRound r) n c.P (fun e a' w'=>∃ s' C',Q e s'/\Rel c s' C' a' w') a w
section
variable {c : Ctx} {r : Nat} {s : St} {Q : Exit -> St -> Prop}
theorem aJT {draw:Bool} {lv:List Nat} {ms:List MOp} (hx:e9 c.G ms s (fun s'=>Q .normal ⟨mD lv s'.e,s'.o⟩)):aR7 c r (.reg draw lv ms) s Q:=by
 intro n lv' code hc hnd C a w hr
 obtain ⟨id,ops,rfl,h1,h2⟩:=aGa hc
 have hnd:pP ops=true:=hnd
 refine wpIn_mono (Q:=fun e a' w'=>e=.normal/\∃ s' C',Q .normal s'/\Rel c s' C' a' w') ?_ (fun e a' w' ⟨h,h'⟩=>by subst h; exact h')
 cases draw with
 | true =>
  obtain ⟨h3,h4⟩:=h2 rfl
  refine aAj (C:=C) hnd (fun a w h=>by cases h.1) h3 h4 (fun j o d hj=>uH _ _ h1 o (aM (by rw [Array.getElem?_toList]; exact hj)) d) hr.relE (pA _ _ s _ h1 hx) ?_
  rintro E a' w' hE ⟨e',hK,rfl⟩
  exact ⟨rfl,_,C,hK,Rel.weak (s:=⟨e',s.o⟩) ⟨hE.tmps,hE.defers,hE.env,hE.wd,hE.fix⟩ (lB lv e')⟩
 | false =>
  refine aBn hnd (fun a w h=>by cases h.1) (jV (K:=fun s'=>Q .normal ⟨mD lv s'.e,s'.o⟩) ?_ _ _ s C a w h1 hr hx)
  intro s' C' a' w' hr' hK
  exact ⟨rfl,_,C',hK,hr'.weak (lB lv s'.e)⟩
theorem aLV {un lv:List Nat} {p:MP} {J:St->Prop} (hx:g7 c.G un p [] s fun s'=>J ⟨mD lv s'.e,s'.o⟩) (hJ:∀ s',J s'->∃ s1,gH s' s1/\Q .normal s1):aR7 c r (.any un lv p) s Q:=by
 intro n lv' code hc hnd C a w hr
 obtain ⟨id,ops,ts,rfl,hp⟩:=aG4 hc
 have hnd:pP ops=true:=hnd
 refine wpIn_mono (Q:=fun e a' w'=>e=.normal/\∃ s' C',Q .normal s'/\Rel c s' C' a' w') ?_ (fun e a' w' ⟨h,h'⟩=>by subst h; exact h')
 refine aCl hnd hp hr hx ?_
 intro s' C' a' w' hr' hK
 obtain ⟨s1,h1,h2⟩:=hJ _ hK
 obtain ⟨C1,h3⟩:=(hr'.weak (e':=mD lv s'.e) (lB lv s'.e)).weaken h1
 exact ⟨s1,C1,h2,h3⟩
end
theorem jA {c:Ctx} {r:Nat}:∀ (m:MC) (s:St) (Q:Exit->St->Prop),vR m=true->eP c.G m s Q->aR7 c r (iP m) s Q
 | .gh m,s,Q,hf,h=>by
  obtain ⟨α,S,hk,h⟩:=h
  intro n lv code hc hnd C a w hr
  obtain ⟨x,C',hr'⟩:=hk c C a w hr
  exact jA m (S x) Q hf (h x) n lv code hc hnd C' a w hr'
 | .skip,s,Q,_,h=>by
  intro n lv code hc hnd C a w hr
  cases code<;>simp only [comp] at hc
  case skip=>exact wpIn_skip ⟨s,C,h,hr⟩
  all_goals first
   |(split at hc<;>(try split at hc)<;>(try split at hc)<;>first|cases hc|(injection hc with hc; cases hc))
   |(simp only [aJ] at hc; obtain ⟨_,_,hc⟩:=hc; cases hc)
   |(injection hc with hc; cases hc)
   | cases hc
 | .exit i,s,Q,_,h=>by
  intro n lv code hc hnd C a w hr
  have:=aD5 hc
  subst this
  exact wpIn_exit ⟨s,C,h,hr⟩
 | .any un lv p,s,Q,_,h=>by
  obtain ⟨J,h1,h2⟩:=h
  exact aLV h1 h2
 | .reg d lv ms,s,Q,_,h=>aJT h
 | .seq x y,s,Q,hf,h=>by
  simp only [vR,aC] at hf
  intro n lv code hc hnd C a w hr
  obtain ⟨a',b',rfl,h1,h2⟩:=aGE hc
  simp only [kT,aC] at hnd
  refine wpIn_seq (wpIn_mono (jA x s _ hf.1 h n lv a' h1 hnd.1 C a w hr) ?_)
  rintro e a1 w1 ⟨s1,C1,hq,hr1⟩
  cases e with
  | normal=>exact jA y s1 Q hf.2 hq n lv b' h2 hnd.2 C1 a1 w1 hr1
  | _=>exact ⟨s1,C1,hq,hr1⟩
 | .cond p x y,s,Q,hf,h=>by
  simp only [vR,aC] at hf
  simp only [eP] at h
  intro n lv code hc hnd C a w hr
  obtain ⟨q,a',b',rfl,h3,h4,h5⟩:=aDm hc
  simp only [kT,aC] at hnd
  split at h
  ·rename_i b hb
   have hv:=iM hr h3
   rw [hb] at hv
   exact wpIn_cond_split (dY.1 hv) (fun hh=>jA x s Q hf.1 (h.1 hh) n lv a' h4 hnd.1 C a w hr) (fun hh=>jA y s Q hf.2 (h.2 hh) n lv b' h5 hnd.2 C a w hr)
  ·exact h.elim
 | .block i x,s,Q,hf,h=>by
  intro n lv code hc hnd C a w hr
  obtain ⟨b',rfl,h1⟩:=aBB hc
  refine wpIn_block (wpIn_mono (jA x s _ hf h n lv b' h1 hnd C a w hr) ?_)
  rintro e a1 w1 ⟨s1,C1,hq,hr1⟩
  cases e with
  | exit j =>
   simp only [inB] at hq
   simp only [Exit.inBlock]
   split
   ·rename_i hi; rw [if_pos hi] at hq; exact ⟨s1,C1,hq,hr1⟩
   ·rename_i hi; rw [if_neg hi] at hq; exact ⟨s1,C1,hq,hr1⟩
  | _=>exact ⟨s1,C1,hq,hr1⟩
 | .loop _,_,_,hf,_=>by cases hf
 | .ret,_,_,hf,_=>by cases hf
 | .hole,_,_,hf,_=>by cases hf
def lG:Code->Option Code
 | .rangeFunc _ _ _ b=>some b
 | .seq a b=>(lG a).or (lG b)
 | .cond _ a b=>(lG a).or (lG b)
 | .block _ b=>lG b
 | .loop b=>lG b
 | _=>none
theorem aI8 (ps:List (List Nat)) {P:PG} {body:Option Code} {m:MC} {lo n0:Nat} {lv:List (Nat×List Nat)} (hb:(body.bind fun c=>(lG c).bind (comp P.P (lo,n0) lv))=some m) (hnd:(body.bind fun c=>(lG c).map kT)=some true) (hf:vR (cR ps m)=true)
  {s:St} {Q:Exit->St->Prop} (h:eP P (cR ps m) s Q):∃ b,body.bind lG=some b/\∀ (c:Ctx),c.G=P->c.nn=(lo,n0)->∀ C a w,Rel c s C a w->∀ r n,b.wpIn (Fence.wide.inRound r) n P.P (fun e a' w'=>∃ s' C',Q e s'/\Rel c s' C' a' w') a w:=by
 cases body with
 | none=>cases hb
 | some code =>
  simp only [aU] at hb hnd
  cases hc:lG code with
  | none=>rw [hc] at hb; cases hb
  | some b =>
   rw [hc] at hb hnd
   simp only [aU,aW,Option.some.injEq] at hb hnd
   refine ⟨b,hc,fun c hP hn C a w hr r n=>?_⟩
   subst hP
   have he:iP (cR ps m)=m:=(mY ps m).trans (aBN b m hb)
   have:=jA (c:=c) (r:=r) (cR ps m) s Q hf h
   rw [he] at this
   exact this n lv b (by rw [hn]; exact hb) hnd C a w hr
def jX {α:Type} (p:α->Bool) (xs:List α):Int:=match xs.findIdx? p with
 | some i=>(i:Int)
 | none=>-1
theorem qH {α:Type} {p:α->Bool} {xs:List α} {i:Nat} {r:α} (hr:xs[i]?=some r) (hp:p r=true) (h:∀ (j:Nat) (s:α),j < i->xs[j]?=some s->p s=false):jX p xs=(i:Int):=by
 have hi:=cQ hr
 have e:xs.findIdx? p=some i:=by
  rw [List.findIdx?_eq_some_iff_getElem]
  refine ⟨hi,?_,fun j hj=>?_⟩
  ·rw [List.getElem?_eq_getElem hi] at hr; injection hr with hr; rw [hr]; exact hp
  ·have:=h j (xs[j]'(by omega)) hj (List.getElem?_eq_getElem _)
   simp [this]
 simp only [jX,e]
theorem oW {α:Type} {p:α->Bool} {xs:List α} (h:∀ (j:Nat) (s:α),xs[j]?=some s->p s=false):jX p xs=-1:=by
 have e:xs.findIdx? p=none:=by
  rw [List.findIdx?_eq_none_iff]
  intro x hx
  obtain ⟨j,hj⟩:=List.getElem?_of_mem hx
  exact h j x hj
 simp only [jX,e]
theorem rA {α:Type} {p:α->Bool} {xs:List α}:decide (0<=jX p xs)=xs.any p:=by
 cases h:xs.findIdx? p with
 | none =>
  have h1:=h
  rw [List.findIdx?_eq_none_iff] at h
  have:xs.any p=false:=by rw [aR]; intro x hx; simp [h x hx]
  simp [jX,h1,this]
 | some i =>
  have h1:=h
  rw [List.findIdx?_eq_some_iff_getElem] at h
  obtain ⟨hi,hp,_⟩:=h
  have:xs.any p=true:=by rw [aT]; exact ⟨_,List.getElem_mem hi,hp⟩
  simp [jX,h1,this]
theorem aGO {α:Type} {p:α->Bool} {xs:List α} (h:0<=jX p xs):∃ (i:Nat) (r:α),jX p xs=(i:Int)/\xs[i]?=some r/\p r=true:=by
 cases e:xs.findIdx? p with
 | none=>simp [jX,e] at h
 | some i =>
  have h1:=e
  rw [List.findIdx?_eq_some_iff_getElem] at h1
  obtain ⟨hi,hp,_⟩:=h1
  exact ⟨i,xs[i],by simp [jX,e],List.getElem?_eq_getElem hi,hp⟩
theorem aMF {α:Type} {p:α->Bool} {xs:List α} (h:¬ 0<=jX p xs):jX p xs=-1:=by
 cases e:xs.findIdx? p with
 | none=>simp [jX,e]
 | some i=>simp [jX,e] at h
theorem sZ {o:List Ob} {K:SV->Prop} {n:Int}:eI o none (iD n) K=K (.d (.int .i64 n)):=by simp [iD,eI,D.noOwn]
theorem s5 (v:List Int) (n:Int):v.any (fun x=>decide (n=x))=v.contains n:=by
 induction v with
 | nil=>rfl
 | cons a v ih=>simp only [aN,aQ,ih]; congr 1
end Go.Pe
