/-
 A layer for walks of Go functions aAb their compact code (part D): data and where they lie,contracts,the operations,the walk of code. Own work,the same in every claim of this set.
-/
import Derived.Test.YtmkmjcgkcpmmpaaGreatDoorPeC
import Derived.ProofKit
import Derived.Deep.Slices
import Derived.Lib.AtoiErrMem
import Derived.RangeFuncNested
import Derived.RangeFuncCalls
import Derived.OrdersIn
import Derived.OwnWalkIn
namespace Go.Pe
open Go Go.RowKit
def fO {α:Type} (x:Option α) (K:α->Prop):Prop:=∃ y,x=some y/\K y
def fN (c:Prop) (K:Prop):Prop:=c/\K
def onI (k:IntKind) (n:Int) (K:SV->Prop):Prop:=(bQ k n/\K (.d (.int k n)))\/K (.d (.int k (k.wrap n)))
theorem aF0 {α:Type} {y:α} {K:α->Prop}:fO (some y) K=K y:=by simp [fO]
theorem aD {K:Prop}:fN True K=K:=by simp [fN]
theorem aQ {c K:Prop} (h:c) (k:K):fN c K:=⟨h,k⟩
theorem nM {α:Type} {x:Option α} {K:α->Prop} (y:α) (h:x=some y) (k:K y):fO x K:=⟨y,h,k⟩
theorem aI {k:IntKind} {n:Int} {K:SV->Prop} (h:bQ k n) (hk:K (.d (.int k n))):onI k n K:=.inl ⟨h,hk⟩
theorem rC {k:IntKind} {n:Int} {K:SV->Prop} (hk:K (.d (.int k (k.wrap n)))):onI k n K:=.inr hk
@[congr] theorem aKh {α : Type} {x x' : Option α} {K : α -> Prop} (h : x = x') : fO x K = fO x' K := by rw [h]
@[congr] theorem aKk {c c' : Prop} {K : Prop} (h : c = c') : fN c K = fN c' K := by rw [h]
@[congr] theorem aKm {k : IntKind} {n n' : Int} {K : SV -> Prop} (h : n = n') : onI k n K = onI k n' K := by rw [h]
def l5 (o:List Ob) (r:Nat):Option D:=match o[r]? with
 | some (.box z)=>some z
 | _=>none
def nI (o:List Ob) (r:Nat):Option D:=match o[r]? with
 | some (.val z)=>some z
 | _=>none
def aA0 (o:List Ob) (r es:Nat):Option D:=match o[r]? with
 | some (.val (.sl true es' xs))=>if es'=es then some xs else none
 | _=>none
theorem eN {o:List Ob} {r:Nat} {z:D}:l5 o r=some z↔o[r]?=some (.box z):=by
 unfold l5; split
 ·rename_i h; rw [h]; simp
 ·rename_i h; constructor
  ·intro h; cases h
  ·intro h2; exact absurd h2 (h z)
theorem dW {o:List Ob} {r:Nat} {z:D}:nI o r=some z↔o[r]?=some (.val z):=by
 unfold nI; split
 ·rename_i h; rw [h]; simp
 ·rename_i h; constructor
  ·intro h; cases h
  ·intro h2; exact absurd h2 (h z)
theorem gK {o:List Ob} {r es:Nat} {z:D}:aA0 o r es=some z↔o[r]?=some (.val (.sl true es z)):=by
 unfold aA0; split
 ·rename_i es' xs h; rw [h]
  split
  ·rename_i e; subst e; simp
  ·rename_i e; simp [e]
 ·rename_i h; constructor
  ·intro h; cases h
  ·intro h2; exact absurd h2 (h _ _)
def aCB (o:List Ob) (r es:Nat):Option (Bool×D):=match o[r]? with
 | some (.val (.sl ow es' xs))=>if es'=es then some (ow,xs) else none
 | _=>none
theorem x3 {o:List Ob} {r es:Nat} {ow:Bool} {z:D}:aCB o r es=some (ow,z)↔o[r]?=some (.val (.sl ow es z)):=by
 unfold aCB; split
 ·rename_i ow' es' xs h; rw [h]
  split
  ·rename_i e; subst e; simp
  ·rename_i e; simp [e]
 ·rename_i h; constructor
  ·intro h; cases h
  ·intro h2; exact absurd h2 (h _ _ _)
section
variable {P : PG} {s : St} {o : List Ob} {E : Nat -> SV} {K : SV -> Prop} {KK : SV -> St -> Prop}
theorem aIe {mo:MO}:jT P s true mo KK=cY P s mo KK:=propext Iff.rfl
theorem aHk {mo:MO}:jT P s false mo KK=b7 P s.o (look s.e) mo fun sv=>KK sv s:=propext Iff.rfl
theorem aDk {x:Opd}:b7 P o E (.mov x) K=K (d8 E x):=propext Iff.rfl
def nY (c a b:SV) (K:SV->Prop):Prop:=match c with
 | .d (.bool t)=>(t=true->K a)/\(t=false->K b)
 | _=>False
theorem aBB {c x y:Opd}:b7 P o E (.pick c x y) K=nY (d8 E c) (d8 E x) (d8 E y) K:=propext Iff.rfl
theorem aAI {a b:SV}:nY (.d (.bool true)) a b K=K a:=by simp [nY]
theorem yZ {a b:SV}:nY (.d (.bool false)) a b K=K b:=by simp [nY]
theorem aA {a b:SV} {t:Bool} (h1:t=true->K a) (h2:t=false->K b):nY (.d (.bool t)) a b K:=⟨h1,h2⟩
@[congr] theorem aGX {c c' a a' b b' : SV} (h : c = c') (h1 : a = a') (h2 : b = b') : nY c a b K = nY c' a' b' K := by rw [h, h1, h2]
theorem aDb {op:BinOp} {x y:Opd}:b7 P o E (.bin op x y) K=gF op (d8 E x) (d8 E y) K:=propext Iff.rfl
theorem aFa {op:BinOp} {x y:Opd}:b7 P o E (.bb op x y) K=oJ op (d8 E x) (d8 E y) K:=propext Iff.rfl
theorem aFr {op:BinOp} {x y:Opd}:b7 P o E (.ie op x y) K=n7 op (d8 E x) (d8 E y) K:=propext Iff.rfl
theorem aFG {op:UnOp} {x:Opd}:b7 P o E (.un op x) K=oM op (d8 E x) K:=propext Iff.rfl
def sX (x:SV) (K:SV->Prop):Prop:=match x with
 | .d (.ptr y)=>K (.d (.ptr y))
 | .ptr r off p=>K (.ptr r off p)
 | .el r es i off p=>K (.el r es i off p)
 | .d (.clo g xs)=>K (.d (.clo g xs))
 | _=>False
theorem aDL {x:Opd}:b7 P o E (.nck x) K=sX (d8 E x) K:=propext Iff.rfl
theorem aEp {agg:Option Nat} {x:Opd}:b7 P o E (.ld agg x) K=gI o agg (d8 E x) K:=propext Iff.rfl
theorem aEe {f off:Nat} {x:Opd}:b7 P o E (.fa f off x) K=aT f off (d8 E x) K:=propext Iff.rfl
theorem aD6 {es:Nat} {x i:Opd}:b7 P o E (.ia es x i) K=lR o es (d8 E x) (d8 E i) K:=propext Iff.rfl
theorem aEG {x i:Opd}:b7 P o E (.ix x i) K=oA (d8 E x) (d8 E i) K:=propext Iff.rfl
theorem aDa {b:Bool} {x:Opd}:b7 P o E (.len b x) K=gB o b (d8 E x) K:=propext Iff.rfl
theorem aDe {x:Opd} {i:Nat}:b7 P o E (.ext x i) K=nA (d8 E x) i K:=propext Iff.rfl
theorem aBj {k:IntKind} {x:Opd}:b7 P o E (.conv k x) K=kY k (d8 E x) K:=propext Iff.rfl
theorem aDV {x:Opd} {lo hi:Option Opd}:b7 P o E (.sls x lo hi) K=jD (d8 E x) (nO E lo) (nO E hi) K:=propext Iff.rfl
theorem aE8 {b:Bool} {x y:Opd}:b7 P o E (.mx b x y) K=p7 b (d8 E x) (d8 E y) K:=propext Iff.rfl
def evL (E:Nat->SV):List Opd->List SV
 | []=>[]
 | p :: ps=>d8 E p :: evL E ps
theorem aCn (ps:List Opd):evL E ps=ps.map (d8 E):=by
 induction ps with
 | nil=>rfl
 | cons p ps ih=>simp [evL,ih]
def tY (P:PG) (o:List Ob) (f:FuncId) (as:List SV) (K:SV->Prop):Prop :=
 ∃ ds rs,dZ o as ds/\Fn P f ds (fun qs=>qs=rs)/\(as.all tM=true\/rs.all D.allOwn=true)/\K (nK (rs.map D.unown))
theorem zI {f:FuncId} {args:List Opd}:b7 P o E (.callP f args) K=tY P o f (evL E args) K:=by rw [aCn]; rfl
@[congr] theorem aGg {f : FuncId} {as as' : List SV} (h : as = as') : tY P o f as K = tY P o f as' K := by rw [h]
def gH (P:PG) (s:St) (f:FuncId) (args:List Opd) (as:List SV) (K:SV->St->Prop):Prop:=as=fF s.e args->cY P s (.call f args) K
theorem aBR {f:FuncId} {args:List Opd}:cY P s (.call f args) KK=gH P s f args (fF s.e args) KK:=propext ⟨fun h _=>h,fun h=>h rfl⟩
@[congr] theorem aIg {f : FuncId} {args : List Opd} {as as' : List SV} {s' : St} (h2 : s = s') (h : as = as') : gH P s f args as KK = gH P s' f args as' KK := by rw [h, h2]
def bV (o:List Ob):SV->Option D
 | .d x=>some x
 | .own r=>(nI o r).map D.unown
 | .vw r=>match l5 o r with
  | some (.st xs)=>some (.st xs.unown)
  | _=>none
 | _=>none
def bE (o:List Ob):List SV->Option (List D)
 | []=>some []
 | s :: ss=>match bV o s,bE o ss with
  | some x,some xs=>some (x :: xs)
  | _,_=>none
theorem aGT {s:SV} {x:D} (h:bV o s=some x):aA4 o s x:=by
 unfold bV at h
 split at h
 ·injection h with h; exact h.symm
 ·rename_i r
  obtain ⟨y,h1,h2⟩:=Option.map_eq_some_iff.1 h
  exact ⟨y,dW.1 h1,h2.symm⟩
 ·rename_i r
  split at h
  ·rename_i xs h1
   injection h with h
   exact ⟨xs,eN.1 h1,h.symm⟩
  ·cases h
 ·cases h
theorem jL:∀ {ss:List SV} {xs:List D},bE o ss=some xs->dZ o ss xs
 | [],xs,h=>by injection h with h; exact h.symm
 | s :: ss,xs,h=>by
  unfold bE at h
  split at h
  ·rename_i x ys h1 h2
   injection h with h
   exact ⟨x,ys,h.symm,aGT h1,jL h2⟩
  ·cases h
theorem aH {f:FuncId} {as:List SV} {ds rs:List D} (hf:Fn P f ds (fun qs=>qs=rs)) (ha:bE o as=some ds) (hd:(as.all tM || rs.all D.allOwn)=true) (hk:K (nK (rs.map D.unown))):tY P o f as K :=
 ⟨ds,rs,jL ha,hf,by simpa using hd,hk⟩
theorem aG {f:FuncId} {args:List Opd} {as:List SV} {ds rs:List D} (hf:Fn P f ds (fun qs=>qs=rs)) (ha:bE s.o as=some ds) (hd:(as.all tM || rs.all D.allOwn)=true) (hk:KK (jO (bI rs s.o).1) ⟨s.e,(bI rs s.o).2⟩):gH P s f args as KK:=by
 intro e
 subst e
 exact ⟨_,_,eL.refl s,fun _=>.inl ⟨ds,_,jL ha,hf,fun qs h=>by subst h; exact ⟨by simpa using hd,hk⟩⟩⟩
theorem nT {f:FuncId} {args:List Opd} {as:List SV} {ds:List D} {R:List D->Prop} (hf:Fn P f ds R) (ha:bE s.o as=some ds) (hk:∀ rs,R rs->(as.all tM=true\/rs.all D.allOwn=true)/\KK (jO (bI rs s.o).1) ⟨s.e,(bI rs s.o).2⟩):gH P s f args as KK:=by
 intro e
 subst e
 exact ⟨_,_,eL.refl s,fun _=>.inl ⟨ds,R,jL ha,hf,hk⟩⟩
theorem oZ {f:FuncId} {args:List Opd} {bx:Bool} {r:Nat} {ss:List SV} {x y:D} {ds rs:List D} (hf:sO P f bx x ds (fun x' qs=>x'=y/\qs=rs)) (hor:s.o[r]?=some (dO bx x)) (ha:bE s.o ss=some ds) (hd:ss.all tM=true)
  (hk:KK (jO (bI rs (s.o.set r (dO bx y))).1) ⟨iH (cW r) s.e,(bI rs (s.o.set r (dO bx y))).2⟩):gH P s f args (dN bx r :: ss) KK:=by
 intro e
 refine ⟨_,_,eL.refl s,fun _=>.inr (.inl ⟨bx,r,x,ss,ds,_,e.symm,hor,jL ha,hd,hf,?_⟩)⟩
 rintro x' rs' ⟨rfl,rfl⟩
 exact hk
theorem cR {f:FuncId} {args:List Opd} {bx:Bool} {r:Nat} {ss:List SV} {x:D} {ds:List D} {R:D->List D->Prop} (hf:sO P f bx x ds R) (hor:s.o[r]?=some (dO bx x)) (ha:bE s.o ss=some ds) (hd:ss.all tM=true)
  (hk:∀ y rs,R y rs->KK (jO (bI rs (s.o.set r (dO bx y))).1) ⟨iH (cW r) s.e,(bI rs (s.o.set r (dO bx y))).2⟩):gH P s f args (dN bx r :: ss) KK:=by
 intro e
 exact ⟨_,_,eL.refl s,fun _=>.inr (.inl ⟨bx,r,x,ss,ds,R,e.symm,hor,jL ha,hd,hf,hk⟩)⟩
theorem aZ {f:FuncId} {args:List Opd} {r:Nat} {ss:List SV} {x:D} {ds:List D} {L:List (Value×Nat×D)} {R:D->List D->Prop} (hf:vR P f x L ds R) (hor:s.o[r]?=some (.box x)) (ha:bE s.o ss=some ds) (hd:ss.all (xJ r)=true) (hL:j9 s.o L)
  (hk:∀ y rs,R y rs->(y.allOwn=true/\rs.all D.allOwn=true)/\KK (jO (bI rs (s.o.set r (dO true y))).1) ⟨iH (cW r) s.e,(bI rs (s.o.set r (dO true y))).2⟩):gH P s f args (dN true r :: ss) KK:=by
 intro e
 exact ⟨_,_,eL.refl s,fun _=>.inr (.inr (.inl (.inr (.inr ⟨r,x,ss,ds,L,R,e.symm,hor,jL ha,hd,hL,hf,hk⟩))))⟩
theorem cJ {f:FuncId} {args:List Opd} {as:List SV} (q:Nat) (h:gH P (i6 q s) f args (fF (i6 q s).e args) KK):gH P s f args as KK:=by
 intro _
 obtain ⟨α,S,hS,h⟩:=h rfl
 exact ⟨_,_,(eL.frz q s).sig fun _=>hS,fun u=>h u.2⟩
theorem j7 {f:FuncId} {args:List Opd} {as:List SV} {α:Type} (S:α->St) (hk:eL s S) (h:∀ x,gH P (S x) f args (fF (S x).e args) KK):gH P s f args as KK:=by
 intro _
 have hx:∀ x,∃ (β:Type) (T:β->St),eL (S x) T/\∀ u,aI1 P (T u) f (fF (T u).e args) KK\/aIZ P (T u) f (fF (T u).e args) KK\/aIP P (T u) f (fF (T u).e args) KK\/aFC P (T u) f (fF (T u).e args) KK:=fun x=>h x rfl
 exact ⟨_,_,hk.sig fun x=>Classical.choose_spec (Classical.choose_spec (hx x)) |>.1,fun u=>(Classical.choose_spec (Classical.choose_spec (hx u.1))).2 u.2⟩
theorem aHG {k:IntKind} {a b:Int}:d7 .add k a b K=onI k (a + b) K:=propext Iff.rfl
theorem aH2 {k:IntKind} {a b:Int}:d7 .sub k a b K=onI k (a - b) K:=propext Iff.rfl
theorem aHv {k:IntKind} {a b:Int}:d7 .mul k a b K=onI k (a * b) K:=propext Iff.rfl
theorem aGI {k:IntKind} {a b:Int}:d7 .quo k a b K=fN (b≠0) (onI k (a.tdiv b) K):=propext Iff.rfl
theorem aGz {k:IntKind} {a b:Int}:d7 .rem k a b K=fN (b≠0) (K (.d (.int k (a.tmod b)))):=propext Iff.rfl
theorem aHq {k:IntKind} {a b:Int}:d7 .and k a b K=K (.d (.int k (bits .and k a b))):=propext Iff.rfl
theorem aJn {k:IntKind} {a b:Int}:d7 .or k a b K=K (.d (.int k (bits .or k a b))):=propext Iff.rfl
theorem aHg {k:IntKind} {a b:Int}:d7 .xor k a b K=K (.d (.int k (bits .xor k a b))):=propext Iff.rfl
theorem aIs {k:IntKind} {a b:Int}:d7 .eql k a b K=K (.d (.bool (decide (a=b)))):=propext Iff.rfl
theorem aGK {k:IntKind} {a b:Int}:d7 .neq k a b K=K (.d (.bool (!decide (a=b)))):=propext Iff.rfl
theorem aHd {k:IntKind} {a b:Int}:d7 .lss k a b K=K (.d (.bool (decide (a < b)))):=propext Iff.rfl
theorem aHf {k:IntKind} {a b:Int}:d7 .leq k a b K=K (.d (.bool (decide (a<=b)))):=propext Iff.rfl
theorem aGL {k:IntKind} {a b:Int}:d7 .gtr k a b K=K (.d (.bool (decide (b < a)))):=propext Iff.rfl
theorem aHN {k:IntKind} {a b:Int}:d7 .geq k a b K=K (.d (.bool (decide (b<=a)))):=propext Iff.rfl
theorem aG5 {op:BinOp} {k:IntKind} {a b:Int}:gF op (.d (.int k a)) (.d (.int k b)) K=d7 op k a b K:=by simp [gF]
theorem aHt {op:BinOp} {a b:List UInt8}:gF op (.d (.str a)) (.d (.str b)) K=lA op a b K:=propext Iff.rfl
theorem aGO {a b:List UInt8}:lA .add a b K=fN (a.length + b.length<=9223372036854775807) (K (.d (.str (a ++ b)))):=propext Iff.rfl
theorem aHm {a b:List UInt8}:lA .eql a b K=K (.d (.bool (decide (a=b)))):=propext Iff.rfl
theorem aH8 {a b:List UInt8}:lA .neq a b K=K (.d (.bool (!decide (a=b)))):=propext Iff.rfl
theorem aIB {a b:List UInt8}:lA .lss a b K=K (.d (.bool (Op.bytesLess a b))):=propext Iff.rfl
theorem aJ4 {a b:Bool}:oJ .eql (.d (.bool a)) (.d (.bool b)) K=K (.d (.bool (a == b))):=propext Iff.rfl
theorem aJu {a b:Bool}:oJ .neq (.d (.bool a)) (.d (.bool b)) K=K (.d (.bool (!(a == b)))):=propext Iff.rfl
theorem aI9 {a:Bool}:n7 .eql (.d (.err a)) (.d (.err true)) K=K (.d (.bool a)):=propext Iff.rfl
theorem aJz {a:Bool}:n7 .neq (.d (.err a)) (.d (.err true)) K=K (.d (.bool (!a))):=propext Iff.rfl
theorem aJH {b:Bool}:oM .not (.d (.bool b)) K=K (.d (.bool (!b))):=propext Iff.rfl
theorem aJJ {k:IntKind} {n:Int}:oM .neg (.d (.int k n)) K=onI k (-n) K:=propext Iff.rfl
theorem aG9 {k k':IntKind} {n:Int}:kY k (.d (.int k' n)) K=onI k n K:=propext Iff.rfl
theorem aKt {k k':IntKind} {b:Bool} {n m:Int}:p7 b (.d (.int k n)) (.d (.int k' m)) K=K (.d (.int k (if b then max n m else min n m))):=propext Iff.rfl
theorem aG8 {a:List UInt8}:gB o true (.d (.str a)) K=K (.d (.int .i64 a.length)):=propext Iff.rfl
theorem aJr {ow:Bool} {es:Nat} {xs:D}:gB o false (.d (.sl ow es xs)) K=K (.d (.int .i64 xs.len)):=propext Iff.rfl
theorem aHz:gB o false .nil K=K (.d (.int .i64 0)):=propext Iff.rfl
def lenOf (o:List Ob) (r:Nat):Option Nat:=match nI o r with
 | some (.sl _ _ xs)=>some xs.len
 | _=>none
theorem aIu {r:Nat}:gB o false (.own r) K=fO (lenOf o r) fun n=>K (.d (.int .i64 n)):=by
 apply propext
 simp only [gB,fO,lenOf]
 constructor
 ·rintro ⟨es,xs,ow,h,hk⟩
  exact ⟨xs.len,by rw [dW.2 h],hk⟩
 ·rintro ⟨n,h,hk⟩
  split at h
  ·rename_i ow es xs h1
   injection h with h
   subst h
   exact ⟨es,xs,ow,dW.1 h1,hk⟩
  ·cases h
theorem aKM {b:List UInt8} {k:IntKind} {n:Int}:oA (.d (.str b)) (.d (.int k n)) K=fN (0<=n) (fO (b[n.toNat]?) fun u=>K (.d (.int .u8 (u.toNat:Int)))):=by
 apply propext
 simp only [oA,fN,fO]
 constructor
 ·rintro ⟨u,h1,h2,h3⟩; exact ⟨h1,u,h2,h3⟩
 ·rintro ⟨h1,u,h2,h3⟩; exact ⟨u,h1,h2,h3⟩
theorem aNa {es es':Nat} {ow:Bool} {xs:D} {k:IntKind} {n:Int}:lR o es (.d (.sl ow es' xs)) (.d (.int k n)) K=fN (es'=es) (fN (0<=n) (fO (xs.nth n.toNat) fun y=>K (.d (.ptr y)))):=by
 apply propext
 simp only [lR,fN,fO]
 constructor
 ·rintro ⟨h,u,h1,h2,h3⟩; exact ⟨h,h1,u,h2,h3⟩
 ·rintro ⟨h,h1,u,h2,h3⟩; exact ⟨h,u,h1,h2,h3⟩
theorem aJL {r es:Nat} {k:IntKind} {n:Int}:lR o es (.own r) (.d (.int k n)) K=fO (aCB o r es) fun p=>fN (0<=n) (fO (p.2.nth n.toNat) fun y=>K (elS p.1 r es n.toNat y)):=by
 apply propext
 simp only [lR,fN,fO]
 constructor
 ·rintro ⟨ow,xs,y,h1,h2,h3,h4⟩; exact ⟨(ow,xs),x3.2 h1,h2,y,h3,h4⟩
 ·rintro ⟨⟨ow,xs⟩,h1,h2,y,h3,h4⟩; exact ⟨ow,xs,y,x3.1 h1,h2,h3,h4⟩
theorem aJd {k:IntKind} {n:Int}:cE o none (.int k n) K=K (.d (.int k n)):=by simp [cE,D.noOwn]
theorem aHD {b:Bool}:cE o none (.bool b) K=K (.d (.bool b)):=by simp [cE,D.noOwn]
theorem aFB {b:List UInt8}:cE o none (.str b) K=K (.d (.str b)):=by simp [cE,D.noOwn]
theorem aJa {b:Bool}:cE o none (.err b) K=K (.d (.err b)):=by simp [cE,D.noOwn]
theorem aKr {b:Bool} {es:Nat} {xs:D}:cE o none (.sl b es xs) K=fN ((D.sl b es xs).noOwn=true) (K (.d (.sl b es xs))):=propext Iff.rfl
def aCA (o:List Ob) (q:Nat):Option (Nat×Value):=match o[q]? with
 | some (.tag r v)=>some (r,v)
 | _=>none
theorem xE {o:List Ob} {q r:Nat} {v:Value}:aCA o q=some (r,v)↔o[q]?=some (.tag r v):=by
 unfold aCA
 constructor
 ·intro h
  split at h
  ·rename_i r' v' h1; injection h with h; injection h with h2 h3; subst h2 h3; exact h1
  ·cases h
 ·intro h; rw [h]
theorem aJv {q:Nat} {v:Value}:cE o none (.lnk q v) K=fO (aCA o q) fun p=>fN (p.2=v) (K (.own p.1)):=by
 apply propext
 simp only [cE,fO,fN]
 constructor
 ·rintro ⟨r,h1,h2⟩; exact ⟨(r,v),xE.2 h1,rfl,h2⟩
 ·rintro ⟨⟨r,v'⟩,h1,h2,h3⟩; simp only at h2 h3; subst h2; exact ⟨r,xE.1 h1,h3⟩
theorem aKw {n:Nat} {xs:D}:cE o (some n) (.st xs) K=fN (xs.size=n) (fN (xs.noOwn=true) (K (.d (.st xs)))):=propext Iff.rfl
theorem aN4 {agg:Option Nat} {y:D}:gI o agg (.d (.ptr y)) K=cE o agg y K:=propext Iff.rfl
theorem aJU {agg:Option Nat} {r off:Nat} {p:List Nat}:gI o agg (.ptr r off p) K=fO (l5 o r) fun z=>fN (dG p z=off) (fO (fC p z) fun y=>cE o agg y K):=by
 apply propext
 simp only [gI,fN,fO]
 constructor
 ·rintro ⟨z,h1,h2,h3⟩; exact ⟨z,eN.2 h1,h2,h3⟩
 ·rintro ⟨z,h1,h2,h3⟩; exact ⟨z,eN.1 h1,h2,h3⟩
theorem aK3 {agg:Option Nat} {r es i off:Nat} {p:List Nat}:gI o agg (.el r es i off p) K=fO (aA0 o r es) fun xs=>fO (xs.nth i) fun z=>fN (dG p z=off) (fO (fC p z) fun y=>cE o agg y K):=by
 apply propext
 simp only [gI,fN,fO]
 constructor
 ·rintro ⟨xs,z,h1,h2,h3,h4⟩; exact ⟨xs,gK.2 h1,z,h2,h3,h4⟩
 ·rintro ⟨xs,h1,z,h2,h3,h4⟩; exact ⟨xs,z,gK.1 h1,h2,h3,h4⟩
theorem aM6 {f off:Nat} {xs:D}:aT f off (.d (.ptr (.st xs))) K=fN (xs.pre f=off) (fO (xs.nth f) fun y=>K (.d (.ptr y))):=propext Iff.rfl
theorem aJI {f off r off':Nat} {p:List Nat}:aT f off (.ptr r off' p) K=K (.ptr r (off' + off) (p ++ [f])):=propext Iff.rfl
theorem aKx {f off r es i off':Nat} {p:List Nat}:aT f off (.el r es i off' p) K=K (.el r es i (off' + off) (p ++ [f])):=propext Iff.rfl
theorem aJV {xs:List SV} {i:Nat}:nA (.tup xs) i K=fO xs[i]? K:=propext Iff.rfl
def onT (t:Option (D×List Ob×List Nat)) (K:D->List Ob->List Nat->Prop):Prop:=∃ x,t=some x/\K x.1 x.2.1 x.2.2
@[congr] theorem aKf {t t' : Option (D × List Ob × List Nat)} {K : D -> List Ob -> List Nat -> Prop} (h : t = t') : onT t K = onT t' K := by rw [h]
theorem aJb {x:D} {K:D->List Ob->List Nat->Prop}:iC o (.d x) K=K x o []:=propext Iff.rfl
theorem aEY {r:Nat} {K:D->List Ob->List Nat->Prop}:iC o (.own r) K=fO (nI o r) fun x=>K x (o.set r .dead) [r]:=by
 apply propext
 simp only [iC,fO]
 constructor
 ·rintro ⟨x,h1,h2⟩; exact ⟨x,dW.2 h1,h2⟩
 ·rintro ⟨x,h1,h2⟩; exact ⟨x,dW.1 h1,h2⟩
def aBa (o:List Ob) (r:Nat):Option D:=match l5 o r with
 | some (.st xs)=>some xs
 | _=>none
theorem l9 {r:Nat} {z:D}:aBa o r=some z↔o[r]?=some (.box (.st z)):=by
 unfold aBa; split
 ·rename_i h; rw [eN] at h; rw [h]; simp
 ·rename_i h; constructor
  ·intro h; cases h
  ·intro h2; exact absurd (eN.2 h2) (h z)
theorem aGt {r:Nat} {K:D->List Ob->List Nat->Prop}:iC o (.vw r) K=fO (aBa o r) fun xs=>K (.st xs) (o.set r .dead) [r]:=by
 apply propext
 simp only [iC,fO]
 constructor
 ·rintro ⟨x,h1,h2⟩; exact ⟨x,l9.2 h1,h2⟩
 ·rintro ⟨x,h1,h2⟩; exact ⟨x,l9.1 h1,h2⟩
theorem aDx {r off:Nat} {p:List Nat} {y:D} {K:List Ob->Nat->Prop}:mZ o (.ptr r off p) y K=fO (l5 o r) fun z=>fN (dG p z=off) (fO (fC p z) fun u=>fN (y.size=u.size) (K (o.set r (.box (gG p z y))) r)):=by
 apply propext
 simp only [mZ,fO,fN]
 constructor
 ·rintro ⟨z,u,h1,h2,h3,h4,h5⟩; exact ⟨z,eN.2 h1,h2,u,h3,h4,h5⟩
 ·rintro ⟨z,h1,h2,u,h3,h4,h5⟩; exact ⟨z,u,eN.1 h1,h2,h3,h4,h5⟩
theorem aFL {r es i off:Nat} {p:List Nat} {y:D} {K:List Ob->Nat->Prop}:mZ o (.el r es i off p) y K=fO (aA0 o r es) fun xs=>fO (xs.nth i) fun z=>fN (dG p z=off) (fO (fC p z) fun u=>fN (y.size=u.size) (K (o.set r (.val (.sl true es (xs.setN i (gG p z y))))) r)):=by
 apply propext
 simp only [mZ,fO,fN]
 constructor
 ·rintro ⟨xs,z,u,h1,h2,h3,h4,h5,h6⟩; exact ⟨xs,gK.2 h1,z,h2,h3,u,h4,h5,h6⟩
 ·rintro ⟨xs,h1,z,h2,h3,u,h4,h5,h6⟩; exact ⟨xs,z,u,gK.1 h1,h2,h3,h4,h5,h6⟩
theorem aKS {x:Opd}:cY P s (.box x) KK=iC s.o (jP s.e x) fun y o1 kr=>fN (y.isV=true) (KK (.ptr o1.length 0 []) ⟨cS kr s.e,o1 ++ [.box y]⟩):=propext Iff.rfl
theorem aHj {z:D}:cY P s (.alloc z) KK=KK (.ptr s.o.length 0 []) ⟨s.e,s.o ++ [.box z]⟩:=propext Iff.rfl
theorem aL3 {n:Nat} {x v:Opd}:cY P s (.st n x v) KK=iC s.o (jP s.e v) fun y o1 kr=>fN (y.isV=true) (fN (y.size=n) (fN (kr.all (fun r=>!cV r (jP s.e x))=true) (mZ o1 (jP s.e x) y fun o2 r=>KK .undef ⟨iH (cW r) (cS kr s.e),o2⟩))):=propext Iff.rfl
theorem aLx {es bytes:Nat} {x y:Opd}:cY P s (.app es bytes x y) KK=x9 es bytes s.o (jP s.e x) (jP s.e y) fun sv o2 kr kk=>KK sv ⟨oO kk (cS kr s.e),o2⟩:=propext Iff.rfl
theorem aM8 {es len:Nat} {z:D} {ps:List (Nat×Opd)}:cY P s (.bs es len z ps) KK=dV s.o (eP (List.replicate len z)) (iB s.e ps) fun xs o1 kr=>KK (.own o1.length) ⟨cS kr s.e,o1 ++ [.val (.sl true es xs)]⟩:=propext Iff.rfl
def aAW (s:St) (xs:D) (o1:List Ob) (kr:List Nat) (b:Bool) (KK:SV->St->Prop):Prop:=if b then KK (.d (.st xs)) ⟨cS kr s.e,o1⟩ else KK (.own o1.length) ⟨cS kr s.e,o1 ++ [.val (.st xs)]⟩
theorem aLG {z:D} {ps:List (Nat×Opd)}:cY P s (.bld z ps) KK=dV s.o z (iB s.e ps) fun xs o1 kr=>aAW s xs o1 kr xs.noOwn KK:=propext Iff.rfl
@[congr] theorem aIR {xs xs' : D} {o1 o1' : List Ob} {kr : List Nat} {b b' : Bool} (h1 : xs = xs') (h2 : o1 = o1') (h3 : b = b') : aAW s xs o1 kr b KK = aAW s xs' o1' kr b' KK := by rw [h1, h2, h3]
theorem aHw {xs:D} {o1:List Ob} {kr:List Nat}:aAW s xs o1 kr true KK=KK (.d (.st xs)) ⟨cS kr s.e,o1⟩:=propext Iff.rfl
theorem aIy {xs:D} {o1:List Ob} {kr:List Nat}:aAW s xs o1 kr false KK=KK (.own o1.length) ⟨cS kr s.e,o1 ++ [.val (.st xs)]⟩:=propext Iff.rfl
def aHX (s:St) (es bytes:Nat) (z:D) (n:SV) (KK:SV->St->Prop):Prop:=match n with
 | .d (.int _ m)=>(0<=m/\(bytes:Int) * m<=281474976710656/\m<=9223372036854775807)/\KK (.own s.o.length) ⟨s.e,s.o ++ [.val (.sl true es (eP (List.replicate m.toNat z)))]⟩
 | _=>False
theorem aM5 {es bytes:Nat} {z:D} {n:Opd}:cY P s (.mk es bytes z n) KK=aHX s es bytes z (jP s.e n) KK:=propext Iff.rfl
theorem aJx {es bytes:Nat} {z:D} {k:IntKind} {m:Int}:aHX s es bytes z (.d (.int k m)) KK=fN (0<=m/\(bytes:Int) * m<=281474976710656/\m<=9223372036854775807) (KK (.own s.o.length) ⟨s.e,s.o ++ [.val (.sl true es (eP (List.replicate m.toNat z)))]⟩):=propext Iff.rfl
theorem aDz {xs:D} {K:D->List Ob->List Nat->Prop}:dV o xs [] K=K xs o []:=propext Iff.rfl
theorem aCc {xs:D} {i:Nat} {sv:SV} {ps:List (Nat×SV)} {K:D->List Ob->List Nat->Prop}:dV o xs ((i,sv) :: ps) K=iC o sv fun y o1 kr=>fO (xs.nth i) fun u=>fN (y.size=u.size) (fN (y.isV=true) (dV o1 (xs.setN i y) ps fun xs' o2 kr'=>K xs' o2 (kr ++ kr'))):=by
 apply propext
 have e:dV o xs ((i,sv) :: ps) K=iC o sv fun y o1 kr=>∃ u,xs.nth i=some u/\y.size=u.size/\y.isV=true/\dV o1 (xs.setN i y) ps fun xs' o2 kr'=>K xs' o2 (kr ++ kr'):=rfl
 rw [e]; exact Iff.rfl
theorem aED {es bytes:Nat} {ys:D} {kr:List Nat} {K:SV->List Ob->List Nat->Option Nat->Prop}:lU es bytes o .nil ys kr K=fN (ys.len * bytes<=140737488355328/\ys.len<=9223372036854775807) (K (.own o.length) (o ++ [.val (.sl true es ys)]) kr none):=propext Iff.rfl
theorem aEo {es bytes r:Nat} {ys:D} {kr:List Nat} {K:SV->List Ob->List Nat->Option Nat->Prop}:lU es bytes o (.own r) ys kr K=fO (aA0 o r es) fun xs=>fN ((xs.len + ys.len) * bytes<=140737488355328/\xs.len + ys.len<=9223372036854775807) (K (.own r) ((unT r o).set r (.val (.sl true es (xs.app ys)))) kr (some r)):=by
 apply propext
 simp only [lU,fO,fN]
 constructor
 ·rintro ⟨xs,h1,h2,h3⟩; exact ⟨xs,gK.2 h1,h2,h3⟩
 ·rintro ⟨xs,h1,h2,h3⟩; exact ⟨xs,gK.1 h1,h2,h3⟩
theorem aJc {es es' bytes:Nat} {x:SV} {ow:Bool} {ys:D} {K:SV->List Ob->List Nat->Option Nat->Prop}:x9 es bytes o x (.d (.sl ow es' ys)) K=fN (es'=es) (lU es bytes o x ys [] K):=propext Iff.rfl
theorem aEy {es bytes:Nat} {x:SV} {K:SV->List Ob->List Nat->Option Nat->Prop}:x9 es bytes o x .nil K=lU es bytes o x .nil [] K:=propext Iff.rfl
def aAP (es bytes:Nat) (o:List Ob) (x:SV) (q:Nat) (ys:D) (b:Bool) (K:SV->List Ob->List Nat->Option Nat->Prop):Prop:=if b then lU es bytes o x ys [] K else lU es bytes (o.set q .dead) x ys [q] K
theorem aER {es bytes q:Nat} {x:SV} {K:SV->List Ob->List Nat->Option Nat->Prop}:x9 es bytes o x (.own q) K=fO (aA0 o q es) fun ys=>fN (x≠.own q) (aAP es bytes o x q ys ys.noOwn K):=by
 apply propext
 simp only [x9,fO,fN]
 constructor
 ·rintro ⟨xs,h1,h2,h3⟩; exact ⟨xs,gK.2 h1,h2,h3⟩
 ·rintro ⟨xs,h1,h2,h3⟩; exact ⟨xs,gK.1 h1,h2,h3⟩
@[congr] theorem aIX {es bytes q : Nat} {x : SV} {ys ys' : D} {b b' : Bool} {K : SV -> List Ob -> List Nat -> Option Nat -> Prop} (h1 : ys = ys') (h3 : b = b') : aAP es bytes o x q ys b K = aAP es bytes o x q ys' b' K := by rw [h1, h3]
theorem aHS {es bytes q:Nat} {x:SV} {ys:D} {K:SV->List Ob->List Nat->Option Nat->Prop}:aAP es bytes o x q ys true K=lU es bytes o x ys [] K:=propext Iff.rfl
theorem aIA {es bytes q:Nat} {x:SV} {ys:D} {K:SV->List Ob->List Nat->Option Nat->Prop}:aAP es bytes o x q ys false K=lU es bytes (o.set q .dead) x ys [q] K:=propext Iff.rfl
theorem aKC {e:eA} {t:Nat} {r:List ResultVar} {K:List D->Prop}:dQ e o (.tmp t :: r) K=iC o (look e t) fun x o1 _=>dQ e o1 r fun xs=>K (x :: xs):=propext Iff.rfl
theorem aG0 {e:eA} {K:List D->Prop}:dQ e o [] K=K []:=propext Iff.rfl
def pP (o:List Ob) (sv:SV) (K:D->List Ob->Prop):Prop:=match sv with
 | .ptr q 0 []=>fO (aBa o q) fun xs=>K (.st xs) (o.set q .dead)
 | _=>False
theorem aKI {e:eA} {t ty:Nat} {r:List ResultVar} {K:List D->Prop}:dQ e o (.cell t ty :: r) K=pP o (look e t) fun x o1=>dQ e o1 r fun ys=>K (x :: ys):=by
 apply propext
 have e1:dQ e o (.cell t ty :: r) K=match look e t with
  | .ptr q 0 []=>∃ xs,o[q]?=some (.box (.st xs))/\dQ e (o.set q .dead) r fun ys=>K (.st xs :: ys)
  | _=>False:=rfl
 rw [e1]
 unfold pP
 split
 ·simp only [fO,l9]
 ·exact Iff.rfl
theorem aFt {q:Nat} {K:D->List Ob->Prop}:pP o (.ptr q 0 []) K=fO (aBa o q) fun xs=>K (.st xs) (o.set q .dead):=propext Iff.rfl
def aAz (P:Program) (rvs:List ResultVar) (R:List D->Prop) (s:St):Prop:=fN (cO P s.e s.o rvs) (dQ s.e s.o rvs R)
@[congr] theorem aIK {P : Program} {rvs : List ResultVar} {R : List D -> Prop} {s' : St} (h : s = s') : aAz P rvs R s = aAz P rvs R s' := by rw [h]
theorem aKY {P:Program} {rvs:List ResultVar} {R:List D->Prop}:aE4 P rvs R .normal s=aAz P rvs R s:=propext Iff.rfl
theorem aK5 {P:Program} {rvs:List ResultVar} {R:List D->Prop}:aE4 P rvs R .ret s=aAz P rvs R s:=propext Iff.rfl
theorem aHA {P:Program} {rvs:List ResultVar} {R:List D->Prop}:aAz P rvs R s=fN (cO P s.e s.o rvs) (dQ s.e s.o rvs R):=propext Iff.rfl
theorem aJX {e:eA} {t:Nat} {r:List ResultVar} {K:List D->List Ob->Prop}:cQ e o (.tmp t :: r) K=iC o (look e t) fun x o1 _=>cQ e o1 r fun xs o2=>K (x :: xs) o2:=propext Iff.rfl
theorem aF7 {e:eA} {K:List D->List Ob->Prop}:cQ e o [] K=K [] o:=propext Iff.rfl
theorem aJ2 {e:eA} {t ty:Nat} {r:List ResultVar} {K:List D->List Ob->Prop}:cQ e o (.cell t ty :: r) K=pP o (look e t) fun x o1=>cQ e o1 r fun ys o2=>K (x :: ys) o2:=by
 apply propext
 have e1:cQ e o (.cell t ty :: r) K=match look e t with
  | .ptr q 0 []=>∃ xs,o[q]?=some (.box (.st xs))/\cQ e (o.set q .dead) r fun ys o2=>K (.st xs :: ys) o2
  | _=>False:=rfl
 rw [e1]
 unfold pP
 split
 ·simp only [fO,l9]
 ·exact Iff.rfl
def zW (bx:Bool) (o:List Ob) (K:D->Prop):Prop:=∃ x',o[0]?=some (dO bx x')/\K x'
theorem aJ8 {K:D->Prop}:zW false o K=fO (nI o 0) K:=by
 apply propext
 simp only [zW,fO,dO]
 exact ⟨fun ⟨x,h,k⟩=>⟨x,dW.2 h,k⟩,fun ⟨x,h,k⟩=>⟨x,dW.1 h,k⟩⟩
theorem aJD {K:D->Prop}:zW true o K=fO (l5 o 0) K:=by
 apply propext
 simp only [zW,fO,dO]
 exact ⟨fun ⟨x,h,k⟩=>⟨x,eN.2 h,k⟩,fun ⟨x,h,k⟩=>⟨x,eN.1 h,k⟩⟩
@[congr] theorem aJS {bx : Bool} {o' : List Ob} {K : D -> Prop} (h : o = o') : zW bx o K = zW bx o' K := by rw [h]
@[congr] theorem aET {e e' : eA} {o' : List Ob} {rs : List ResultVar} {K : List D -> List Ob -> Prop} (he : e = e') (h : o = o') : cQ e o rs K = cQ e' o' rs K := by rw [h, he]
def uY (P:Program) (rvs:List ResultVar) (bx:Bool) (R:D->List D->Prop) (s:St):Prop:=fN (cO P s.e s.o rvs) (fN (look s.e 0=dN bx 0) (cQ s.e s.o rvs fun rs o2=>zW bx o2 fun x'=>R x' rs))
@[congr] theorem aHP {P : Program} {rvs : List ResultVar} {bx : Bool} {R : D -> List D -> Prop} {s' : St} (h : s = s') : uY P rvs bx R s = uY P rvs bx R s' := by rw [h]
theorem aJo {P:Program} {rvs:List ResultVar} {bx:Bool} {R:D->List D->Prop}:s8 P rvs bx R .normal s=uY P rvs bx R s:=propext Iff.rfl
theorem aJ3 {P:Program} {rvs:List ResultVar} {bx:Bool} {R:D->List D->Prop}:s8 P rvs bx R .ret s=uY P rvs bx R s:=propext Iff.rfl
theorem aE7 {P:Program} {rvs:List ResultVar} {bx:Bool} {R:D->List D->Prop}:uY P rvs bx R s=fN (cO P s.e s.o rvs) (fN (look s.e 0=dN bx 0) (cQ s.e s.o rvs fun rs o2=>zW bx o2 fun x'=>R x' rs)):=propext Iff.rfl
end
end Go.Pe
namespace Go.Pe
open Go Go.RowKit
@[congr] theorem aI0 {o o' : List Ob} {s s' : SV} {K : D -> List Ob -> List Nat -> Prop} (ho : o = o') (hs : s = s') : iC o s K = iC o' s' K := by rw [ho, hs]
@[congr] theorem aIh {o o' : List Ob} {x x' : SV} {y y' : D} {K : List Ob -> Nat -> Prop} (ho : o = o') (hx : x = x') (hy : y = y') : mZ o x y K = mZ o' x' y' K := by rw [ho, hx, hy]
@[congr] theorem aD4 {o o' : List Ob} {xs xs' : D} {ps ps' : List (Nat × SV)} {K : D -> List Ob -> List Nat -> Prop} (ho : o = o') (hxs : xs = xs') (hps : ps = ps') : dV o xs ps K = dV o' xs' ps' K := by rw [ho, hxs, hps]
@[congr] theorem aJj {es : Nat} {bytes : Nat} {o o' : List Ob} {x x' : SV} {y y' : SV} {K : SV -> List Ob -> List Nat -> Option Nat -> Prop} (ho : o = o') (hx : x = x') (hy : y = y') : x9 es bytes o x y K = x9 es bytes o' x' y' K := by rw [ho, hx, hy]
@[congr] theorem aJE {es : Nat} {bytes : Nat} {o o' : List Ob} {x x' : SV} {ys ys' : D} {kr kr' : List Nat} {K : SV -> List Ob -> List Nat -> Option Nat -> Prop} (ho : o = o') (hx : x = x') (hys : ys = ys') (hkr : kr = kr') : lU es bytes o x ys kr K = lU es bytes o' x' ys' kr' K := by rw [ho, hx, hys, hkr]
@[congr] theorem aF9 {e e' : eA} {o o' : List Ob} {rs : List ResultVar} {K : List D -> Prop} (he : e = e') (ho : o = o') : dQ e o rs K = dQ e' o' rs K := by rw [he, ho]
@[congr] theorem aHo {o o' : List Ob} {x x' : SV} {K : D -> List Ob -> Prop} (ho : o = o') (hx : x = x') : pP o x K = pP o' x' K := by rw [ho, hx]
@[congr] theorem aHn {o o' : List Ob} {agg : Option Nat} {x x' : SV} {K : SV -> Prop} (ho : o = o') (hx : x = x') : gI o agg x K = gI o' agg x' K := by rw [ho, hx]
@[congr] theorem aIC {o o' : List Ob} {agg : Option Nat} {y y' : D} {K : SV -> Prop} (ho : o = o') (hy : y = y') : cE o agg y K = cE o' agg y' K := by rw [ho, hy]
@[congr] theorem aHy {o o' : List Ob} {es : Nat} {x x' : SV} {i i' : SV} {K : SV -> Prop} (ho : o = o') (hx : x = x') (hi : i = i') : lR o es x i K = lR o' es x' i' K := by rw [ho, hx, hi]
@[congr] theorem aGD {x x' : SV} {i i' : SV} {K : SV -> Prop} (hx : x = x') (hi : i = i') : oA x i K = oA x' i' K := by rw [hx, hi]
@[congr] theorem aGc {o o' : List Ob} {b : Bool} {x x' : SV} {K : SV -> Prop} (ho : o = o') (hx : x = x') : gB o b x K = gB o' b x' K := by rw [ho, hx]
@[congr] theorem aIo {f : Nat} {off : Nat} {x x' : SV} {K : SV -> Prop} (hx : x = x') : aT f off x K = aT f off x' K := by rw [hx]
@[congr] theorem aGq {x x' : SV} {i : Nat} {K : SV -> Prop} (hx : x = x') : nA x i K = nA x' i K := by rw [hx]
@[congr] theorem aF3 {k : IntKind} {x x' : SV} {K : SV -> Prop} (hx : x = x') : kY k x K = kY k x' K := by rw [hx]
@[congr] theorem aGj {x x' : SV} {lo lo' : Option SV} {hi hi' : Option SV} {K : SV -> Prop} (hx : x = x') (hlo : lo = lo') (hhi : hi = hi') : jD x lo hi K = jD x' lo' hi' K := by rw [hx, hlo, hhi]
@[congr] theorem aIl {b : Bool} {x x' : SV} {y y' : SV} {K : SV -> Prop} (hx : x = x') (hy : y = y') : p7 b x y K = p7 b x' y' K := by rw [hx, hy]
@[congr] theorem aGn {op : BinOp} {x x' : SV} {y y' : SV} {K : SV -> Prop} (hx : x = x') (hy : y = y') : gF op x y K = gF op x' y' K := by rw [hx, hy]
@[congr] theorem aGP {op : BinOp} {x x' : SV} {y y' : SV} {K : SV -> Prop} (hx : x = x') (hy : y = y') : oJ op x y K = oJ op x' y' K := by rw [hx, hy]
@[congr] theorem aID {op : BinOp} {x x' : SV} {y y' : SV} {K : SV -> Prop} (hx : x = x') (hy : y = y') : n7 op x y K = n7 op x' y' K := by rw [hx, hy]
@[congr] theorem aHr {op : UnOp} {x x' : SV} {K : SV -> Prop} (hx : x = x') : oM op x K = oM op x' K := by rw [hx]
@[congr] theorem aIU {x x' : SV} {K : SV -> Prop} (hx : x = x') : sX x K = sX x' K := by rw [hx]
@[congr] theorem aIV {P : PG} {o o' : List Ob} {E : Nat -> SV} {mo : MO} {K : SV -> Prop} (ho : o = o') : b7 P o E mo K = b7 P o' E mo K := by rw [ho]
@[congr] theorem aIF {P : PG} {s s' : St} {mo : MO} {K : SV -> St -> Prop} (hs : s = s') : cY P s mo K = cY P s' mo K := by rw [hs]
@[congr] theorem aIW {P : PG} {s s' : St} {eff : Bool} {mo : MO} {K : SV -> St -> Prop} (hs : s = s') : jT P s eff mo K = jT P s' eff mo K := by rw [hs]
@[congr] theorem aJi {s s' : St} {es : Nat} {bytes : Nat} {z : D} {n n' : SV} {K : SV -> St -> Prop} (hs : s = s') (hn : n = n') : aHX s es bytes z n K = aHX s' es bytes z n' K := by rw [hs, hn]
end Go.Pe
namespace Go.Pe
open Go Go.RowKit
def aJm (P:Program) (ty:TypeId) (o:List Ob):SV->Prop
 | .ptr q 0 []=>match aBa o q with
  | some xs=>bX P ty=some xs.size
  | none=>True
 | _=>True
theorem aEU {P:Program} {ty q:Nat} {o:List Ob}:aJm P ty o (.ptr q 0 [])=(match aBa o q with
  | some xs=>bX P ty=some xs.size
  | none=>True):=propext Iff.rfl
theorem aJP {P:Program} {e:eA} {o:List Ob}:cO P e o []=True:=propext Iff.rfl
theorem aM7 {P:Program} {e:eA} {o:List Ob} {t:Nat} {r:List ResultVar}:cO P e o (.tmp t :: r)=cO P e o r:=propext Iff.rfl
theorem aM2 {P:Program} {e:eA} {o:List Ob} {t ty:Nat} {r:List ResultVar}:cO P e o (.cell t ty :: r)=(aJm P ty o (look e t)/\cO P e o r):=by
 apply propext
 refine and_congr ?_ Iff.rfl
 constructor
 ·intro h
  unfold aJm
  split
  ·rename_i q hq
   split
   ·rename_i xs hx; exact h q xs hq (l9.1 hx)
   ·trivial
  ·trivial
 ·intro h q xs hq hx
  rw [hq] at h
  rw [aEU,l9.2 hx] at h
  exact h
end Go.Pe
namespace Go.Pe
open Go Go.RowKit Go.WideShapes Go.ChangeShapes
inductive Sh where
 | int (k:IntKind)
 | bool
 | str
 | sl (es:Nat) (e:Sh)
 | st (xs:Sh)
 | nil
 | cons (x xs:Sh)
def Sh.size:Sh->Nat
 | .st xs=>xs.size
 | .nil=>0
 | .cons x xs=>x.size + xs.size
 | _=>1
def Sh.ok (P:Program):Sh->TypeId ⊕ (List Field×Nat)->Bool
 | .int k,.inl t=>match P.underlying t with
  | some (.int k')=>k' == k
  | _=>false
 | .bool,.inl t=>match P.underlying t with
  | some .bool=>true
  | _=>false
 | .str,.inl t=>match P.underlying t with
  | some .string=>true
  | _=>false
 | .sl es e,.inl t=>match P.underlying t with
  | some (.slice u)=>P.cellsOf u == es && e.size == es && e.ok P (.inl u)
  | _=>false
 | .st xs,.inl t=>match P.underlying t with
  | some (.struct fs)=>P.cellsOf t == xs.size && xs.ok P (.inr (fs.toList,0))
  | _=>false
 | .nil,.inr ([],_)=>true
 | .cons x xs,.inr (f :: fs,off)=>f.offset == off && P.cellsOf f.type == x.size && x.ok P (.inl f.type) && xs.ok P (.inr (fs,off + x.size))
 | _,_=>false
def gQ:Sh->D->Prop
 | .int k,x=>∃ n,x=.int k n/\(Lit.int k n).wf=true
 | .bool,x=>∃ b,x=.bool b
 | .str,x=>∃ s,x=.str s/\s.length<=maxLen
 | .sl es e,x=>∃ xs:List D,x=.sl false es (eP xs)/\xs.length<=maxLen/\∀ y∈xs,gQ e y
 | .st fs,x=>∃ xs,x=.st xs/\gQ fs xs
 | .nil,x=>x=.nil
 | .cons f fs,x=>∃ y ys,x=.cons y ys/\gQ f y/\gQ fs ys
theorem gQ.size:∀ (sh:Sh) (x:D),gQ sh x->x.size=sh.size
 | .int _,x,h=>by obtain ⟨n,rfl,_⟩:=h; rfl
 | .bool,x,h=>by obtain ⟨n,rfl⟩:=h; rfl
 | .str,x,h=>by obtain ⟨n,rfl,_⟩:=h; rfl
 | .sl _ _,x,h=>by obtain ⟨n,rfl,_⟩:=h; rfl
 | .st fs,x,h=>by obtain ⟨xs,rfl,h⟩:=h; exact gQ.size fs xs h
 | .nil,x,h=>by rw [h]; rfl
 | .cons f fs,x,h=>by
  obtain ⟨y,ys,rfl,h1,h2⟩:=h
  show y.size + ys.size=f.size + fs.size
  rw [gQ.size f y h1,gQ.size fs ys h2]
section
variable {H : Type} {enc : TypeId × Value -> H} {P : Program} {w : World} {base : Nat} {spare : Nat -> Bool} {held : Bool}
theorem aFH {a:Addr} {es:Nat} {e:Sh}:∀ (k:Nat) (_:∀ i,i < k->∃ cs x,(∀ j u,cs[j]?=some u->w.cell? ((a.add (i * es)).add j)=some u)/\cs.length=es/\D.rep w (fun _=>False) x cs []/\gQ e x),
  ∃ xs ds,xs.length=k/\ds.length=k * es/\(eP xs).rep w (fun _=>False) ds []/\(∀ y∈xs,gQ e y)/\∀ j u,ds[j]?=some u->w.cell? (a.add j)=some u
 | 0,_=>⟨[],[],rfl,by simp,⟨rfl,rfl⟩,by simp,by simp⟩
 | k + 1,h=>by
  obtain ⟨xs,ds,h1,h2,h3,h4,h5⟩:=aFH k fun i hi=>h i (by omega)
  obtain ⟨cs,x,g1,g2,g3,g4⟩:=h k (by omega)
  refine ⟨xs ++ [x],ds ++ cs,by simp [h1],by simp [h2,g2,Nat.succ_mul],?_,?_,?_⟩
  ·exact (cM xs [x] (ds ++ cs) []).2 ⟨ds,cs,[],[],rfl,rfl,h3,cs,[],[],[],by simp,rfl,g3,rfl,rfl⟩
  ·intro y hy
   rcases List.mem_append.1 hy with hy|hy
   ·exact h4 y hy
   ·rw [List.mem_singleton.1 hy]; exact g4
  ·intro j u hu
   by_cases hj:j < ds.length
   ·rw [List.getElem?_append_left hj] at hu; exact h5 j u hu
   ·rw [List.getElem?_append_right (by omega)] at hu
    have:=g1 _ u hu
    rw [aCE,h2,show k * es + (j - k * es)=j by omega] at this
    exact this
theorem wL:∀ (sh:Sh) (q:TypeId ⊕ (List Field×Nat)),sh.ok P q=true->match q with
  | .inl t=>∀ (fuel:Nat) (cs:List Value) (x:DataW H×List MemPlace),DataW.trod enc P w base spare held fuel t cs=some x->∃ d,d.rep w (fun _=>False) cs []/\gQ sh d
  | .inr (fs,off)=>∀ (n:Nat) (cs:List Value),cs.length=off + sh.size->(∀ f∈fs,∃ y,DataW.trod enc P w base spare held n f.type ((cs.drop f.offset).take (P.cellsOf f.type))=some y) ->
    ∃ d,d.rep w (fun _=>False) (cs.drop off) []/\gQ sh d
 | .int k,.inl t,hok=>by
  intro fuel cs x h
  unfold Sh.ok at hok
  split at hok
  ·rename_i k' ht
   have:k'=k:=by simpa using hok
   subst this
   obtain ⟨n,rfl,_,hw⟩:=DataW.trod_int ht h
   exact ⟨.int k' n,⟨rfl,rfl⟩,n,rfl,hw⟩
  ·cases hok
 | .bool,.inl t,hok=>by
  intro fuel cs x h
  unfold Sh.ok at hok
  split at hok
  ·rename_i ht
   obtain ⟨n,rfl,_⟩:=DataW.trod_bool ht h
   exact ⟨.bool n,⟨rfl,rfl⟩,n,rfl⟩
  ·cases hok
 | .str,.inl t,hok=>by
  intro fuel cs x h
  unfold Sh.ok at hok
  split at hok
  ·rename_i ht
   obtain ⟨s,rfl,_,hs⟩:=DataW.trod_string ht h
   exact ⟨.str s.data.toList,⟨rfl,rfl⟩,_,rfl,by simpa using hs⟩
  ·cases hok
 | .sl es e,.inl t,hok=>by
  intro fuel cs x h
  unfold Sh.ok at hok
  split at hok
  ·rename_i u ht
   simp only [Bool.and_eq_true,beq_iff_eq] at hok
   obtain ⟨⟨hu,hes⟩,hoke⟩:=hok
   rcases Go.Deep.open_slice ht h with ⟨rfl,_⟩|⟨a,len,cap,m,n,D',Pl,rfl,hb,hl,hm,hmm,_,hx⟩
   ·exact ⟨.sl false es .nil,⟨trivial,none,0,[],[],rfl,Nat.le_refl _,⟨rfl,rfl⟩,rfl,rfl,.inl rfl⟩,[],rfl,Nat.zero_le _,by simp⟩
   ·have hlm:len<=m:=by rw [hmm]; split<;>omega
    have hel:∀ i,i < len->∃ cs x,(∀ j u,cs[j]?=some u->w.cell? ((a.add (i * es)).add j)=some u)/\cs.length=es/\Go.Pe.D.rep w (fun _=>False) x cs []/\gQ e x:=by
     intro i hi
     obtain ⟨cs',h1,h2⟩:=hx i (by omega)
     rw [hu] at h1
     obtain ⟨_,g2,g3⟩:=World.cells?_some h1
     obtain ⟨d,hd,hty⟩:=wL e (.inl u) hoke _ _ _ h2
     refine ⟨cs',d,fun j v hv=>?_,g2,hd,hty⟩
     rw [g3 j (by rw [<- g2]; exact aK hv)]; exact hv
    obtain ⟨xs,ds,h1,h2,h3,h4,h5⟩:=aFH len hel
    have hlen:(eP xs).len=len:=by rw [bY,h1]
    refine ⟨.sl false es (eP xs),⟨(eG xs).2 fun y hy=>(gQ.size e y (h4 y hy)).trans hes,some a,cap,ds,[],by rw [hlen],by rw [hlen]; exact hl,h3,rfl,rfl,.inr ⟨a,rfl,?_⟩⟩,xs,rfl,by rw [h1]; omega,h4⟩
    cases hds:ds with
    | nil=>exact .inl rfl
    | cons v vs =>
     have h0:=h5 0 v (by rw [hds]; rfl)
     have hlt:=Go.Lib.lt_of_cell h0
     rw [kJ] at hlt
     exact .inr ⟨hlt,fun h=>h,by rw [<- hds]; exact h5⟩
  ·cases hok
 | .st xs,.inl t,hok=>by
  intro fuel cs x h
  unfold Sh.ok at hok
  split at hok
  ·rename_i fs ht
   simp only [Bool.and_eq_true,beq_iff_eq] at hok
   obtain ⟨hc,hok⟩:=hok
   obtain ⟨ys,n,_,_,hlen,hy,hf⟩:=DataW.trod_struct ht h
   obtain ⟨d,hd,hty⟩:=wL xs (.inr (fs.toList,0)) hok n cs (by rw [hlen,hc,Nat.zero_add]) (by
    intro f hf'
    obtain ⟨i,hi,he⟩:=List.getElem_of_mem hf'
    have hi2:i < ys.length:=by rw [hy]; simpa using hi
    exact ⟨ys[i],by rw [hf i f (by rw [<- he]; simp),List.getElem?_eq_getElem hi2]⟩)
   exact ⟨.st d,(show d.rep w _ cs [] from by simpa using hd),d,rfl,hty⟩
  ·cases hok
 | .nil,.inr ([],off),hok=>by
  intro n cs hlen _
  exact ⟨.nil,⟨by simp [Sh.size] at hlen; simp [hlen],rfl⟩,rfl⟩
 | .cons x xs,.inr (f :: fs,off),hok=>by
  intro n cs hlen hf
  unfold Sh.ok at hok
  simp only [Bool.and_eq_true,beq_iff_eq] at hok
  obtain ⟨⟨⟨ho,hc⟩,hx⟩,hxs⟩:=hok
  obtain ⟨y,hy⟩:=hf f (by simp)
  obtain ⟨d,hd,hty⟩:=wL x (.inl f.type) hx _ _ _ hy
  obtain ⟨ds,hds,htys⟩:=wL xs (.inr (fs,off + x.size)) hxs n cs (by rw [hlen]; simp only [Sh.size]; omega) (fun g hg=>hf g (by simp [hg]))
  rw [ho,hc] at hd
  refine ⟨.cons d ds,⟨(cs.drop off).take x.size,cs.drop (off + x.size),[],[],?_,rfl,hd,hds⟩,d,ds,rfl,hty,htys⟩
  rw [<- List.drop_drop,List.take_append_drop]
 | .int _,.inr _,hok=>by simp [Sh.ok] at hok
 | .bool,.inr _,hok=>by simp [Sh.ok] at hok
 | .str,.inr _,hok=>by simp [Sh.ok] at hok
 | .sl _ _,.inr _,hok=>by simp [Sh.ok] at hok
 | .st _,.inr _,hok=>by simp [Sh.ok] at hok
 | .nil,.inl _,hok=>by simp [Sh.ok] at hok
 | .nil,.inr (_ :: _,_),hok=>by simp [Sh.ok] at hok
 | .cons _ _,.inl _,hok=>by simp [Sh.ok] at hok
 | .cons _ _,.inr ([],_),hok=>by simp [Sh.ok] at hok
theorem aIp {r:Reach} {b0:Nat} {t:TypeId} {v:Value} {d:DataW H} {ps:List MemPlace} (sh:Sh) (hok:sh.ok P (.inl t)=true) (hval:Value.okWide P w r b0 t v)
  (hd:DataW.Trod enc P w base spare held t v d ps):∃ x cs,x.rep w (fun _=>False) cs []/\v=dM x cs/\gQ sh x:=by
 obtain ⟨fuel,hf⟩:=hd
 obtain ⟨x,hx,hty⟩:=wL sh (.inl t) hok fuel _ _ hf
 refine ⟨x,_,hx,?_,hty⟩
 cases sh with
 | int k =>
  unfold Sh.ok at hok
  split at hok
  ·rename_i k' ht
   obtain ⟨n,rfl⟩:=okWide_int ht hval
   obtain ⟨m,rfl,_⟩:=hty
   rfl
  ·cases hok
 | bool =>
  unfold Sh.ok at hok
  split at hok
  ·rename_i ht
   obtain ⟨n,rfl⟩:=okWide_bool ht hval
   obtain ⟨m,rfl⟩:=hty
   rfl
  ·cases hok
 | str =>
  unfold Sh.ok at hok
  split at hok
  ·rename_i ht
   obtain ⟨n,rfl⟩:=okWide_string ht hval
   obtain ⟨m,rfl,_⟩:=hty
   rfl
  ·cases hok
 | sl es e =>
  unfold Sh.ok at hok
  split at hok
  ·rename_i u ht
   obtain ⟨a,l,c,rfl⟩:=okWide_slice ht hval
   obtain ⟨m,rfl,_⟩:=hty
   rfl
  ·cases hok
 | st xs =>
  unfold Sh.ok at hok
  split at hok
  ·rename_i fs ht
   obtain ⟨cs,rfl,_⟩:=okWide_struct ht hval
   obtain ⟨m,rfl,_⟩:=hty
   simp [dM,Value.cells]
  ·cases hok
 | nil=>simp [Sh.ok] at hok
 | cons _ _=>simp [Sh.ok] at hok
end
end Go.Pe
namespace Go.Pe
open Go Go.RowKit
theorem aBx {w:World} {x:D} {xs:List D} {cs:List Value} {us:List Value} (h:x.rep w (fun _=>False) cs []) (hs:b6 w (fun _=>False) xs us []):b6 w (fun _=>False) (x :: xs) (dM x cs :: us) [] :=
 ⟨cs,us,[],[],rfl,rfl,h,hs⟩
theorem aDE {w:World}:b6 w (fun _=>False) [] [] []:=⟨rfl,rfl⟩
theorem Fn.walk {P:PG} {f:FuncId} {ds:List D} {vs:List Value} {w:World} (h:Fn P f ds (fun rs=>rs=[.bool true])) (hF:P.F w) (hv:b6 w (fun _=>False) ds vs []) :
  Calls P.P f vs.toArray w fun e w'=>e=.returned (.bool true)/\Below w.heap.size w w':=by
 refine (h (fun _=>False) vs w (fun b hb=>hb.elim) ⟨w,hF,Nat.le_refl _,fun _ _=>⟨fun h=>h,rfl⟩⟩ hv).mono fun e w' ⟨rs,us,fp,he,hr,hrep,_,_,hx⟩=>?_
 subst hr
 obtain ⟨cs,us',f1,f2,rfl,_,⟨rfl,_⟩,rfl,_⟩:=hrep
 exact ⟨he,hx⟩
end Go.Pe
namespace Go.Pe
open Go Go.RowKit
def dl {α:Type} (f:α->D) (xs:List α):D:=eP (xs.map f)
section
variable {α : Type} {f : α -> D}
theorem aJ (xs:List α):(dl f xs).len=xs.length:=by simp [dl,bY]
theorem aX (xs:List α) (i:Nat):(dl f xs).nth i=(xs[i]?).map f:=by simp [dl,kZ]
theorem pZ (xs ys:List α):(dl f xs).app (dl f ys)=dl f (xs ++ ys):=by simp [dl,yW]
theorem qZ (h:∀ a,(f a).unown=f a) (xs:List α):(dl f xs).unown=dl f xs:=by
 have e:D.unown ∘ f=f:=funext h
 simp [dl,xG,e]
theorem nW (h:∀ a,(f a).noOwn=true):∀ xs:List α,(dl f xs).noOwn=true
 | []=>rfl
 | x :: xs=>by
  show ((f x).noOwn && (dl f xs).noOwn)=true
  rw [h,nW h xs]; rfl
theorem l6 (h:∀ a,(f a).allOwn=true):∀ xs:List α,(dl f xs).allOwn=true
 | []=>rfl
 | x :: xs=>by
  show ((f x).allOwn && (dl f xs).allOwn)=true
  rw [h,l6 h xs]; rfl
theorem gD:∀ (xs:List α) (i:Nat) (a:α),(dl f xs).setN i (f a)=dl f (xs.set i a)
 | [],i,a=>by cases i<;>rfl
 | x :: xs,0,a=>rfl
 | x :: xs,i + 1,a=>by
  show D.cons (f x) ((dl f xs).setN i (f a))=D.cons (f x) (dl f (xs.set i a))
  rw [gD xs i a]
theorem bM {xs:List α} {i:Nat} (h:i < xs.length):∃ a,xs[i]?=some a:=⟨xs[i],List.getElem?_eq_getElem h⟩
theorem t6 {e:Sh} {P:α->Prop} (h:∀ x,gQ e x->∃ a,x=f a/\P a):∀ xs:List D,(∀ y∈xs,gQ e y)->∃ ys:List α,eP xs=dl f ys/\ys.length=xs.length/\∀ a∈ys,P a
 | [],_=>⟨[],rfl,rfl,by simp⟩
 | x :: xs,hx=>by
  obtain ⟨a,rfl,ha⟩:=h x (hx x (by simp))
  obtain ⟨ys,h1,h2,h3⟩:=t6 h xs fun y hy=>hx y (by simp [hy])
  refine ⟨a :: ys,?_,by simp [h2],?_⟩
  ·show D.cons (f a) (eP xs)=D.cons (f a) (dl f ys)
   rw [h1]
  ·intro b hb
   rcases List.mem_cons.1 hb with hb|hb
   ·rw [hb]; exact ha
   ·exact h3 b hb
end
theorem aIm {k:IntKind} {n:Int}:(D.int k n).isV=true:=rfl
theorem aD7 {b:Bool}:(D.bool b).isV=true:=rfl
theorem aHC {b:List UInt8}:(D.str b).isV=true:=rfl
theorem aGH {b:Bool}:(D.err b).isV=true:=rfl
theorem aJG {o:Bool} {es:Nat} {xs:D}:(D.sl o es xs).isV=true:=rfl
theorem aI4 {xs:D}:(D.st xs).isV=true:=rfl
theorem aH0 {x:D}:(D.ptr x).isV=true:=rfl
theorem aGC {g:Nat} {x:D}:(D.clo g x).isV=true:=rfl
def iD (n:Int):D:=.int .i64 n
end Go.Pe
namespace Go.Pe
open Go Go.RowKit
theorem oB {o:List Ob} {K:D->List Ob->List Nat->Prop} (es:Nat) (h:K (.sl true es .nil) o []):iC o .nil K:=⟨es,h⟩
theorem eZ {α:Type} {f:α->D} (xs:List α) (a:α):(dl f xs).app (D.cons (f a) .nil)=dl f (xs ++ [a]):=pZ xs [a]
theorem eX (xs:List Int) (n:Int):(dl iD xs).app (D.cons (.int .i64 n) .nil)=dl iD (xs ++ [n]):=pZ xs [n]
theorem aFb (n:Int):(iD n).unown=iD n:=rfl
theorem aFx (n:Int):(iD n).noOwn=true:=rfl
theorem xX (n:Int):(iD n).allOwn=true:=rfl
end Go.Pe
set_option linter.all false
namespace Go.Pe
open Go Go.RowKit
def fD:Ob->Option Nat->List Nat->Option D
 | .box z,none,p=>fC p z
 | .val (.sl true _ xs),some i,p=>(xs.nth i).bind (fC p)
 | .val (.st xs),none,f :: p=>fC (f :: p) (.st xs)
 | _,_,_=>none
def bR:Ob->Option Nat->List Nat->D->Ob
 | .box z,none,p,y=>.box (gG p z y)
 | .val (.sl true es xs),some i,p,y=>.val (.sl true es (xs.setN i (gG p ((xs.nth i).getD .nil) y)))
 | .val (.st xs),none,f :: p,y=>.val (gG (f :: p) (.st xs) y)
 | ob,_,_,_=>ob
theorem rR (ob:Ob) (i:Option Nat) (p:List Nat) (y u:D) (h:fD ob i p=some u) (r:Nat) (v:Value):bR ob i p y≠.tag r v:=by
 unfold fD at h
 split at h
 ·intro h2; cases h2
 ·intro h2; cases h2
 ·intro h2; cases h2
 ·cases h
theorem o8 {α:Type} (cs ds:List α) (k n:Nat) (h:(cs.drop k).take n=ds):cs.take k ++ ds ++ cs.drop (k + n)=cs:=by
 subst h
 rw [List.append_assoc,show cs.drop (k + n)=(cs.drop k).drop n by rw [List.drop_drop],List.take_append_drop,List.take_append_drop]
theorem pQ {w:World} {M:Nat->Prop} {ob:Ob} {i:Option Nat} {p:List Nat} {u:D} {oc:OC} (h:dH w M ob oc) (hp:fD ob i p=some u) :
  ∃ f1 f0 f2 ds,oc.fp=f1 ++ f0 ++ f2/\u.rep w M ds f0/\∀ (M':Nat->Prop) (y:D) (fy:List Nat),(∀ b,b < w.heap.size->M' b->M b)->y.rep w M' ds fy->dH w M' (bR ob i p y) { oc with fp:=f1 ++ fy ++ f2 }:=by
 unfold fD at hp
 split at hp
 ·rename_i z
  obtain ⟨cs,fps,h1,h2,h3⟩:=h
  obtain ⟨f1,f0,f2,hf,hr,hle,hset⟩:=mB p z cs fps u h2 hp
  refine ⟨oc.blk :: f1,f0,f2,_,by rw [h3,hf]; simp,hr,fun M' y fy hM hy=>?_⟩
  have hs:y.size=u.size:=(aW _ _ _ hy).symm.trans (aW _ _ _ hr)
  have:=hset w M' y _ fy ⟨Nat.le_refl _,hM,fun _ _ _=>rfl⟩ hy hs
  rw [o8 _ _ _ _ rfl] at this
  exact ⟨cs,_,h1,this,by simp⟩
 ·rename_i es xs i
  obtain ⟨cs,h1,h2⟩:=h
  obtain ⟨hL,a,c',ds,fps,e1,e2,h3,h4⟩:=h1
  cases hz:xs.nth i with
  | none=>rw [hz] at hp; cases hp
  | some z =>
   rw [hz] at hp
   have hp:fC p z=some u:=hp
   obtain ⟨g1,g0,g2,hg,hr1,hl1,hset1⟩:=qY xs ds fps i z h3 hz
   obtain ⟨f1,f0,f2,hf,hr,hle,hset⟩:=mB p z _ g0 u hr1 hp
   simp only [if_true] at h4
   have hne:xs.len≠0:=by have:=aCO xs i z hz; omega
   rcases h4 with ⟨hc,_,_⟩|⟨g,ha,hrow,hfp⟩
   ·omega
   ·refine ⟨g :: (g1 ++ f1),f0,f2 ++ g2,_,by rw [hfp,hg,hf]; simp,hr,fun M' y fy hM hy=>?_⟩
    have hs:y.size=u.size:=(aW _ _ _ hy).symm.trans (aW _ _ _ hr)
    have k1:=hset w M' y _ fy ⟨Nat.le_refl _,hM,fun _ _ _=>rfl⟩ hy hs
    rw [o8 _ _ _ _ rfl] at k1
    have k2:=hset1 w M' _ _ _ ⟨Nat.le_refl _,hM,fun _ _ _=>rfl⟩ k1 (l7 p z u y hp hs)
    rw [o8 _ _ _ _ rfl] at k2
    have hzs:z.size=es:=(qF xs i z hL hz).2.1
    have hzg:(xs.nth i).getD .nil=z:=by rw [hz]; rfl
    simp only [bR,hzg]
    refine ⟨cs,⟨wF xs i _ hL (by rw [l7 p z u y hp hs]; exact hzs),a,c',ds,_,by rw [e1,lV],by rw [lV]; exact e2,by simpa [hz] using k2,?_⟩,h2⟩
    simp only [if_true]
    exact .inr ⟨g,ha,hrow,by simp⟩
 ·rename_i zs f p
  obtain ⟨cs,h1,h2⟩:=h
  obtain ⟨f1,f0,f2,hf,hr,hle,hset⟩:=mB (f :: p) (.st zs) cs oc.fp u h1 hp
  refine ⟨f1,f0,f2,_,hf,hr,fun M' y fy hM hy=>?_⟩
  have hs:y.size=u.size:=(aW _ _ _ hy).symm.trans (aW _ _ _ hr)
  have:=hset w M' y _ fy ⟨Nat.le_refl _,hM,fun _ _ _=>rfl⟩ hy hs
  rw [o8 _ _ _ _ rfl] at this
  refine ⟨cs,this,?_⟩
  show oc.v=_
  rw [h2]
  unfold gG
  split<;>rfl
 ·cases hp
def jW:List Nat->eA->eA
 | [],e=>e
 | r :: rs,e=>jW rs (iH (cW r) e)
theorem lK:∀ (ks:List Nat) (e:eA) (t:Nat),look (jW ks e) t=if ks.any (fun r=>cW r (look e t)) then .any else look e t
 | [],e,t=>by simp [jW]
 | r :: rs,e,t=>by
  simp only [jW]
  rw [lK rs,fB (cW r) rfl]
  by_cases h:cW r (look e t)=true
  ·simp only [h,if_true,List.any_cons,Bool.true_or]
   split<;>rfl
  ·simp [h]
theorem Rel.regroup {c:Ctx} {s:St} {C:List OC} {a:Act} {w:World} (h:Rel c s C a w) (ks:List Nat) {o':List Ob} {C':List OC} (hlen:o'.length=C'.length)
  (hsame:∀ (r:Nat) (oc:OC),C[r]?=some oc->∃ oc',C'[r]?=some oc'/\oc'.v=oc.v/\oc'.blk=oc.blk/\(r ∉ ks->oc'=oc))
  (hob:∀ (r:Nat) (ob:Ob) (oc:OC),o'[r]?=some ob->C'[r]?=some oc->(s.o[r]?=some ob/\C[r]?=some oc)\/dH w (Ms c C') ob oc)
  (hnd:(cC C').Nodup) (hsub:∀ b∈cC C',b∈cC C)
  (htag:∀ (q r:Nat) (v:Value),o'[q]?=some (.tag r v)->s.o[q]?=some (.tag r v)\/∃ oc,C'[r]?=some oc/\oc.v=v):Rel c ⟨jW ks s.e,o'⟩ C' a w:=by
 have hg:Went w w (fun _=>False):=Went.of_ext (iW.refl w) _
 have hX:∀ b,(fun _=>False:Nat->Prop) b->b∈cC C:=fun b hb=>hb.elim
 have hmem:∀ b∈cC C',(b∈cC C\/w.heap.size<=b)/\b < w.heap.size:=fun b hb=>⟨.inl (hsub b hb),h.wd.lt b (hsub b hb)⟩
 have hval:∀ (r:Nat) (oc:OC),C[r]?=some oc->∃ oc',C'[r]?=some oc'/\oc'.v=oc.v:=fun r oc h1=>by
  obtain ⟨oc',h2,h3,_⟩:=hsame r oc h1
  exact ⟨oc',h2,h3⟩
 refine ⟨h.tmps,h.defers,dC.upd (f:=fun s=>ks.any fun r=>cW r s) hg hX hmem ?_ ?_ (lK ks s.e) h.env,h.wd.upd hg hX hlen ?_ hnd hmem htag (fun q r v oc _ h1=>hval r oc h1),h.fix⟩
 ·intro s r oc _ _ h1
  obtain ⟨oc',h2,h3,h4,_⟩:=hsame r oc h1
  exact ⟨oc',h2,h3,h4⟩
 ·intro s r oc oc' hf hr h1 h2 h3
  obtain ⟨oc2,h4,_,_,h5⟩:=hsame r oc h1
  have hk:r ∉ ks:=fun hk=>by
   have:=List.any_eq_false.1 hf r hk
   exact this hr
  rw [h4] at h3
  injection h3 with h3
  subst h3
  rw [h5 hk]
  exact ⟨h2,fun h=>h⟩
 ·intro r ob oc h1 h2
  rcases hob r ob oc h1 h2 with ⟨h3,h4⟩|h3
  ·exact .inl ⟨h3,h4,fun _ _ h=>h⟩
  ·exact .inr h3
theorem xY {α:Type} {f1 f0 f2:List α} (h:(f1 ++ f0 ++ f2).Nodup):(f1 ++ f2).Nodup/\f0.Nodup/\∀ b∈f0,b ∉ f1 ++ f2:=by
 rw [List.append_assoc,List.nodup_append] at h
 obtain ⟨h1,h2,h3⟩:=h
 rw [List.nodup_append] at h2
 obtain ⟨h4,h5,h6⟩:=h2
 refine ⟨List.nodup_append.2 ⟨h1,h5,fun a ha b hb=>h3 a ha b (by simp [hb])⟩,h4,fun b hb hm=>?_⟩
 rcases List.mem_append.1 hm with hm|hm
 ·exact h3 b hm b (by simp [hb]) rfl
 ·exact h6 b hb b hm rfl
section
variable {c : Ctx} {s : St} {C : List OC} {a : Act} {w : World}
theorem tU {s:St} (ow:Bool) (r:Nat) {ob:Ob} (i:Option Nat) (p:List Nat) {es:Nat} {xs:D} (h1:s.o[r]?=some ob) (hp:fD ob i p=some (.sl ow es xs)) :
  eL s (fun v:Value=>⟨jW [r] s.e,s.o.set r (bR ob i p (.lnk (s.o.length + 1) v)) ++ [.val (.sl ow es xs),.tag s.o.length v]⟩):=by
 intro c C a w h
 have hr:=aK h1
 have hlen:=h.wd.len
 obtain ⟨oc,h2⟩:∃ oc,C[r]?=some oc:=⟨C[r]'(by omega),List.getElem?_eq_getElem _⟩
 have hrC:=aK h2
 obtain ⟨f1,f0,f2,ds,hf,hrep,hset⟩:=pQ (h.wd.obs r ob oc h1 h2) hp
 have hnC:=bC.1 h.wd.nodup
 have hocn:=hnC.1 r oc h2
 rw [hf] at hocn
 obtain ⟨n1,n2,n3⟩:=xY hocn
 have hrep0:=hrep
 obtain ⟨_,av,cv,_,_,hds,_⟩:=hrep
 obtain ⟨v,rfl⟩:∃ v,ds=[v]:=⟨_,hds⟩
 have hone:=jZ _ _ _ hrep0 v (by simp)
 let C':List OC:=C.set r { oc with fp:=f1 ++ [] ++ f2 } ++ [{ v:=v,blk:=0,fp:=f0 },{ v:=Go.undef,blk:=0,fp:=[] }]
 have hcase:∀ (j:Nat) (od:OC),C'[j]?=some od->(j=r/\od={ oc with fp:=f1 ++ [] ++ f2 })\/(j≠r/\j < C.length/\C[j]?=some od)\/(j=C.length/\od={ v:=v,blk:=0,fp:=f0 })\/(j=C.length + 1/\od={ v:=Go.undef,blk:=0,fp:=[] }):=by
  intro j od hj
  rcases cX hrC hj with ⟨e1,e2⟩|⟨e1,e2,e3⟩|⟨e1,e2⟩
  ·exact .inl ⟨e1,e2⟩
  ·exact .inr (.inl ⟨e1,e2,e3⟩)
  ·match hk:j - C.length,e2 with
   | 0,e2=>simp at e2; exact .inr (.inr (.inl ⟨by omega,e2.symm⟩))
   | 1,e2=>simp at e2; exact .inr (.inr (.inr ⟨by omega,e2.symm⟩))
   | k + 2,e2=>simp at e2
 have hin:∀ b∈f1 ++ f0 ++ f2,b∈oc.fp:=fun b hb=>by rw [hf]; exact hb
 have hsub:∀ b∈cC C',b∈cC C:=by
  intro b hb
  obtain ⟨j,od,hj,hb⟩:=aO.1 hb
  rcases hcase j od hj with ⟨_,rfl⟩|⟨_,_,hj⟩|⟨_,rfl⟩|⟨_,rfl⟩
  ·exact aO.2 ⟨r,oc,h2,hin b (by simp at hb ⊢; rcases hb with hb|hb<;>simp [hb])⟩
  ·exact aO.2 ⟨j,od,hj,hb⟩
  ·exact aO.2 ⟨r,oc,h2,hin b (by simp at hb ⊢; simp [hb])⟩
  ·cases hb
 have hM:∀ b,b < w.heap.size->Ms c C' b->Ms c C b:=fun b _ hb=>hb.imp id (hsub b)
 refine ⟨v,C',h.regroup [r] (by simp [C',hlen]) ?_ ?_ ?_ hsub ?_⟩
 ·intro j od hj
  have hjl:=aK hj
  by_cases e:j=r
  ·subst e
   rw [h2] at hj
   injection hj with hj
   subst hj
   exact ⟨{ oc with fp:=f1 ++ [] ++ f2 },by rw [List.getElem?_append_left (by simpa using hrC),List.getElem?_set]; simp [hrC],rfl,rfl,fun hk=>absurd (by simp) hk⟩
  ·exact ⟨od,by rw [List.getElem?_append_left (by simpa using hjl),List.getElem?_set,if_neg (fun h=>e h.symm)]; exact hj,rfl,rfl,fun _=>rfl⟩
 ·intro j oj odj hj1 hj2
  rcases hcase j odj hj2 with ⟨e,rfl⟩|⟨e,el,hj⟩|⟨e,rfl⟩|⟨e,rfl⟩
  ·subst e
   rw [List.getElem?_append_left (by simpa using hr),List.getElem?_set] at hj1
   simp [hr] at hj1
   subst hj1
   exact .inr (hset (Ms c C') _ [] hM ⟨rfl,hone,rfl⟩)
  ·rw [List.getElem?_append_left (by simp; omega),List.getElem?_set,if_neg (fun h=>e h.symm)] at hj1
   exact .inl ⟨hj1,hj⟩
  ·subst e
   rw [<- hlen,List.getElem?_append_right (by simp)] at hj1
   simp at hj1
   subst hj1
   exact .inr ⟨[v],bK (Nat.le_refl _) hM _ _ _ (fun _ _ _=>rfl) hrep0,rfl⟩
  ·subst e
   rw [<- hlen,List.getElem?_append_right (by simp)] at hj1
   simp at hj1
   subst hj1
   exact .inr rfl
 ·refine bC.2 ⟨fun j od hj=>?_,fun j k od oe hne hj hk b hb hb'=>?_⟩
  ·rcases hcase j od hj with ⟨_,rfl⟩|⟨_,_,hj⟩|⟨_,rfl⟩|⟨_,rfl⟩
   ·simpa using n1
   ·exact hnC.1 j od hj
   ·exact n2
   ·exact List.nodup_nil
  ·have other:∀ (k:Nat) (oe:OC),k≠r->C[k]?=some oe->∀ b∈f1 ++ f0 ++ f2,b ∉ oe.fp:=fun k oe hne hk b hb hb'=>hnC.2 r k oc oe (fun h=>hne h.symm) h2 hk b (hin b hb) hb'
   rcases hcase j od hj with ⟨ej,rfl⟩|⟨ej,_,hj⟩|⟨ej,rfl⟩|⟨ej,rfl⟩<;>rcases hcase k oe hk with ⟨ek,rfl⟩|⟨ek,_,hk⟩|⟨ek,rfl⟩|⟨ek,rfl⟩
   all_goals first
    | omega
    |(cases hb; done)
    |(cases hb'; done)
    | exact hnC.2 j k od oe hne hj hk b hb hb'
    | exact other k oe ek hk b (by simp at hb ⊢; first|exact .inr (.inl hb)|(rcases hb with hb|hb<;>simp [hb])) hb'
    | exact other j od ej hj b (by simp at hb' ⊢; first|exact .inr (.inl hb')|(rcases hb' with hb'|hb'<;>simp [hb'])) hb
    | exact n3 b hb (by simpa using hb')
    | exact n3 b hb' (by simpa using hb)
 ·intro q t u hq
  by_cases hql:q < s.o.length
  ·rw [List.getElem?_append_left (by simpa using hql),List.getElem?_set] at hq
   by_cases e:r=q
   ·rw [if_pos e,if_pos hr] at hq
    injection hq with hq
    exact absurd hq (rR ob i p _ _ hp t u)
   ·rw [if_neg e] at hq; exact .inl hq
  ·rw [List.getElem?_append_right (by simp; omega)] at hq
   match hk:q - s.o.length,hq with
   | 0,hq=>simp [hk] at hq
   | 1,hq =>
    simp [hk] at hq
    obtain ⟨rfl,rfl⟩:=hq
    exact .inr ⟨{ v:=v,blk:=0,fp:=f0 },by rw [hlen,List.getElem?_append_right (by simp)]; simp,rfl⟩
   | k + 2,hq=>simp [hk] at hq
theorem cU {s:St} (r:Nat) {ob:Ob} (i:Option Nat) (p:List Nat) {es:Nat} {xs:D} (h1:s.o[r]?=some ob) (hp:fD ob i p=some (.sl true es xs)) :
  eL s (fun v:Value=>⟨jW [r] s.e,s.o.set r (bR ob i p (.lnk (s.o.length + 1) v)) ++ [.val (.sl true es xs),.tag s.o.length v]⟩):=tU true r i p h1 hp
theorem fV {s:St} (r q n:Nat) {v:Value} {ob ob':Ob} (i:Option Nat) (p:List Nat) {ow:Bool} {es:Nat} {xs:D} (h1:s.o[r]?=some ob) (hp:fD ob i p=some (.lnk q v)) (hq:s.o[q]?=some (.tag n v))
  (hn:s.o[n]?=some (.val (.sl ow es xs))) (hne:r≠n) (hob:bR ob i p (.sl ow es xs)=ob') :
  cT s ⟨jW [r,n] s.e,(s.o.set r ob').set n .dead⟩:=by
 subst hob
 intro c C a w h
 have hr:=aK h1
 have hnl:=aK hn
 have hlen:=h.wd.len
 obtain ⟨oc,h2⟩:∃ oc,C[r]?=some oc:=⟨C[r]'(by omega),List.getElem?_eq_getElem _⟩
 obtain ⟨on,h3⟩:∃ on,C[n]?=some on:=⟨C[n]'(by omega),List.getElem?_eq_getElem _⟩
 have hrC:=aK h2
 have hnCl:=aK h3
 obtain ⟨f1,f0,f2,ds,hf,hrep,hset⟩:=pQ (h.wd.obs r ob oc h1 h2) hp
 obtain ⟨rfl,_,rfl⟩:=hrep
 obtain ⟨on',h4,hv⟩:=h.wd.tags q n v hq
 rw [h3] at h4
 injection h4 with h4
 subst h4
 obtain ⟨cs,h5,h6⟩:=h.wd.obs n _ on hn h3
 have hcs:cs=[v]:=by
  have h7:=h5
  obtain ⟨_,_,_,_,_,e,_⟩:=h7
  rw [e] at h6 ⊢
  simp only [dM,List.headD_cons] at h6
  rw [<- hv,h6]
 subst hcs
 have hnC:=bC.1 h.wd.nodup
 have hocn:=hnC.1 r oc h2
 rw [hf] at hocn
 simp only [List.append_nil] at hocn
 have hnn:=hnC.1 n on h3
 have hdis:∀ b∈oc.fp,b ∉ on.fp:=fun b hb hb'=>hnC.2 r n oc on hne h2 h3 b hb hb'
 let C':List OC:=(C.set r { oc with fp:=f1 ++ on.fp ++ f2 }).set n { on with fp:=[] }
 have hcase:∀ (j:Nat) (od:OC),C'[j]?=some od->(j=n/\od={ on with fp:=[] })\/(j=r/\od={ oc with fp:=f1 ++ on.fp ++ f2 })\/(j≠r/\j≠n/\C[j]?=some od):=by
  intro j od hj
  rw [List.getElem?_set] at hj
  by_cases e:n=j
  ·rw [if_pos e,if_pos (by simpa using hnCl)] at hj
   injection hj with hj; exact .inl ⟨e.symm,hj.symm⟩
  ·rw [if_neg e,List.getElem?_set] at hj
   by_cases e2:r=j
   ·rw [if_pos e2,if_pos hrC] at hj
    injection hj with hj; exact .inr (.inl ⟨e2.symm,hj.symm⟩)
   ·rw [if_neg e2] at hj; exact .inr (.inr ⟨fun h=>e2 h.symm,fun h=>e h.symm,hj⟩)
 have hin:∀ b∈f1 ++ f2,b∈oc.fp:=fun b hb=>by rw [hf]; simpa using hb
 have hsub:∀ b∈cC C',b∈cC C:=by
  intro b hb
  obtain ⟨j,od,hj,hb⟩:=aO.1 hb
  rcases hcase j od hj with ⟨_,rfl⟩|⟨_,rfl⟩|⟨_,_,hj⟩
  ·cases hb
  ·simp only [List.mem_append] at hb
   rcases hb with (hb|hb)|hb
   ·exact aO.2 ⟨r,oc,h2,hin b (by simp [hb])⟩
   ·exact aO.2 ⟨n,on,h3,hb⟩
   ·exact aO.2 ⟨r,oc,h2,hin b (by simp [hb])⟩
  ·exact aO.2 ⟨j,od,hj,hb⟩
 have hM:∀ b,b < w.heap.size->Ms c C' b->Ms c C b:=fun b _ hb=>hb.imp id (hsub b)
 refine ⟨C',h.regroup [r,n] (by simp [C',hlen]) ?_ ?_ ?_ hsub ?_⟩
 ·intro j od hj
  have hjl:=aK hj
  by_cases e:n=j
  ·subst e
   rw [h3] at hj; injection hj with hj; subst hj
   exact ⟨{ on with fp:=[] },by rw [List.getElem?_set]; simp [hnCl],rfl,rfl,fun hk=>absurd (by simp) hk⟩
  ·by_cases e2:r=j
   ·subst e2
    rw [h2] at hj; injection hj with hj; subst hj
    exact ⟨{ oc with fp:=f1 ++ on.fp ++ f2 },by rw [List.getElem?_set,if_neg e,List.getElem?_set]; simp [hrC],rfl,rfl,fun hk=>absurd (by simp) hk⟩
   ·exact ⟨od,by rw [List.getElem?_set,if_neg e,List.getElem?_set,if_neg e2]; exact hj,rfl,rfl,fun _=>rfl⟩
 ·intro j oj odj hj1 hj2
  rcases hcase j odj hj2 with ⟨e,rfl⟩|⟨e,rfl⟩|⟨e1,e2,hj⟩
  ·subst e
   rw [List.getElem?_set] at hj1
   simp [hnl] at hj1
   subst hj1
   exact .inr rfl
  ·subst e
   rw [List.getElem?_set,if_neg (fun h=>hne h.symm),List.getElem?_set] at hj1
   simp [hr] at hj1
   subst hj1
   exact .inr (hset (Ms c C') _ on.fp hM (bK (Nat.le_refl _) hM _ _ _ (fun _ _ _=>rfl) h5))
  ·rw [List.getElem?_set,if_neg (fun h=>e2 h.symm),List.getElem?_set,if_neg (fun h=>e1 h.symm)] at hj1
   exact .inl ⟨hj1,hj⟩
 ·have hnew:(f1 ++ on.fp ++ f2).Nodup:=by
   obtain ⟨m1,m2,m3⟩:=List.nodup_append.1 hocn
   rw [List.append_assoc]
   refine List.nodup_append.2 ⟨m1,List.nodup_append.2 ⟨hnn,m2,fun x hx y hy e=>?_⟩,fun x hx y hy e=>?_⟩
   ·subst e; exact hdis x (hin x (by simp [hy])) hx
   ·subst e
    rcases List.mem_append.1 hy with hy|hy
    ·exact hdis x (hin x (by simp [hx])) hy
    ·exact m3 x hx x hy rfl
  refine bC.2 ⟨fun j od hj=>?_,fun j k od oe hne' hj hk b hb hb'=>?_⟩
  ·rcases hcase j od hj with ⟨_,rfl⟩|⟨_,rfl⟩|⟨_,_,hj⟩
   ·exact List.nodup_nil
   ·exact hnew
   ·exact hnC.1 j od hj
  ·have other:∀ (k:Nat) (oe:OC),k≠r->k≠n->C[k]?=some oe->∀ b∈f1 ++ on.fp ++ f2,b ∉ oe.fp:=by
    intro k oe e1 e2 hk b hb hb'
    simp only [List.mem_append] at hb
    rcases hb with (hb|hb)|hb
    ·exact hnC.2 r k oc oe (fun h=>e1 h.symm) h2 hk b (hin b (by simp [hb])) hb'
    ·exact hnC.2 n k on oe (fun h=>e2 h.symm) h3 hk b hb hb'
    ·exact hnC.2 r k oc oe (fun h=>e1 h.symm) h2 hk b (hin b (by simp [hb])) hb'
   rcases hcase j od hj with ⟨ej,rfl⟩|⟨ej,rfl⟩|⟨ej,ej',hj⟩<;>rcases hcase k oe hk with ⟨ek,rfl⟩|⟨ek,rfl⟩|⟨ek,ek',hk⟩
   all_goals first
    | omega
    |(cases hb; done)
    |(cases hb'; done)
    | exact hnC.2 j k od oe hne' hj hk b hb hb'
    | exact other k oe ek ek' hk b hb hb'
    | exact other j od ej ej' hj b hb' hb
 ·intro q' t u hq'
  rw [List.getElem?_set] at hq'
  by_cases e:n=q'
  ·rw [if_pos e,if_pos (by simpa using hnl)] at hq'
   cases hq'
  ·rw [if_neg e,List.getElem?_set] at hq'
   by_cases e2:r=q'
   ·rw [if_pos e2,if_pos hr] at hq'
    injection hq' with hq'; exact absurd hq' (rR ob i p _ _ hp t u)
   ·rw [if_neg e2] at hq'; exact .inl hq'
theorem freeze {s:St} (r:Nat) {ob ob':Ob} (i:Option Nat) (p:List Nat) {x:D} (h1:s.o[r]?=some ob) (hp:fD ob i p=some x) (hob:bR ob i p x.unown=ob') :
  cT s ⟨jW [r] s.e,s.o.set r ob'⟩:=by
 subst hob
 intro c C a w h
 have hr:=aK h1
 have hlen:=h.wd.len
 obtain ⟨oc,h2⟩:∃ oc,C[r]?=some oc:=⟨C[r]'(by omega),List.getElem?_eq_getElem _⟩
 have hrC:=aK h2
 obtain ⟨f1,f0,f2,ds,hf,hrep,hset⟩:=pQ (h.wd.obs r ob oc h1 h2) hp
 have hnC:=bC.1 h.wd.nodup
 have hocn:=hnC.1 r oc h2
 rw [hf] at hocn
 obtain ⟨n1,n2,n3⟩:=xY hocn
 have hin:∀ b∈f1 ++ f0 ++ f2,b∈oc.fp:=fun b hb=>by rw [hf]; exact hb
 let C':List OC:=C.set r { oc with fp:=f1 ++ [] ++ f2 }
 have hcase:∀ (j:Nat) (od:OC),C'[j]?=some od->(j=r/\od={ oc with fp:=f1 ++ [] ++ f2 })\/(j≠r/\C[j]?=some od):=by
  intro j od hj
  rw [List.getElem?_set] at hj
  by_cases e2:r=j
  ·rw [if_pos e2,if_pos hrC] at hj
   injection hj with hj; exact .inl ⟨e2.symm,hj.symm⟩
  ·rw [if_neg e2] at hj; exact .inr ⟨fun h=>e2 h.symm,hj⟩
 have hsub:∀ b∈cC C',b∈cC C/\b ∉ f0:=by
  intro b hb
  obtain ⟨j,od,hj,hb⟩:=aO.1 hb
  rcases hcase j od hj with ⟨_,rfl⟩|⟨e,hj⟩
  ·simp at hb
   exact ⟨aO.2 ⟨r,oc,h2,hin b (by simp; rcases hb with hb|hb<;>simp [hb])⟩,fun h=>n3 b h (by simpa using hb)⟩
  ·exact ⟨aO.2 ⟨j,od,hj,hb⟩,fun h=>hnC.2 r j oc od (fun h=>e h.symm) h2 hj b (hin b (by simp [h])) hb⟩
 have hM:∀ b,b < w.heap.size->Ms c C' b->Ms c C b:=fun b _ hb=>hb.imp id fun h=>(hsub b h).1
 refine ⟨C',h.regroup [r] (by simp [C',hlen]) ?_ ?_ ?_ (fun b hb=>(hsub b hb).1) ?_⟩
 ·intro j od hj
  by_cases e2:r=j
  ·subst e2
   rw [h2] at hj; injection hj with hj; subst hj
   exact ⟨{ oc with fp:=f1 ++ [] ++ f2 },by rw [List.getElem?_set]; simp [hrC],rfl,rfl,fun hk=>absurd (by simp) hk⟩
  ·exact ⟨od,by rw [List.getElem?_set,if_neg e2]; exact hj,rfl,rfl,fun _=>rfl⟩
 ·intro j oj odj hj1 hj2
  rcases hcase j odj hj2 with ⟨e,rfl⟩|⟨e1,hj⟩
  ·subst e
   rw [List.getElem?_set] at hj1
   simp [hr] at hj1
   subst hj1
   refine .inr (hset (Ms c C') _ [] hM (dS _ _ _ (fun b hb=>?_) (fun b hb hm=>?_) hrep))
   ·exact hb.imp id fun h=>(hsub b h).1
   ·rcases hm with hm|hm
    ·exact h.wd.apart b (aO.2 ⟨j,oc,h2,hin b (by simp [hb])⟩) hm
    ·exact (hsub b hm).2 hb
  ·rw [List.getElem?_set,if_neg (fun h=>e1 h.symm)] at hj1
   exact .inl ⟨hj1,hj⟩
 ·refine bC.2 ⟨fun j od hj=>?_,fun j k od oe hne hj hk b hb hb'=>?_⟩
  ·rcases hcase j od hj with ⟨_,rfl⟩|⟨_,hj⟩
   ·simpa using n1
   ·exact hnC.1 j od hj
  ·rcases hcase j od hj with ⟨ej,rfl⟩|⟨ej,hj⟩<;>rcases hcase k oe hk with ⟨ek,rfl⟩|⟨ek,hk⟩
   ·omega
   ·exact hnC.2 r k oc oe (fun h=>ek h.symm) h2 hk b (hin b (by simp at hb ⊢; rcases hb with hb|hb<;>simp [hb])) hb'
   ·exact hnC.2 r j oc od (fun h=>ej h.symm) h2 hj b (hin b (by simp at hb' ⊢; rcases hb' with hb'|hb'<;>simp [hb'])) hb
   ·exact hnC.2 j k od oe hne hj hk b hb hb'
 ·intro q' t u hq'
  rw [List.getElem?_set] at hq'
  by_cases e2:r=q'
  ·rw [if_pos e2,if_pos hr] at hq'
   injection hq' with hq'; exact absurd hq' (rR ob i p _ _ hp t u)
  ·rw [if_neg e2] at hq'; exact .inl hq'
end
end Go.Pe
set_option linter.all false
namespace Go.Pe
open Go Go.RowKit
section
variable {P : PG} {s : St} {o : List Ob} {E : Nat -> SV} {K : SV -> Prop} {KK : SV -> St -> Prop} {KN : Nat -> Nat -> Prop}
theorem aCX {es:Nat} {x:Opd} {lo hi:Option Opd}:b7 P o E (.slx es x lo hi) K=fI o es (d8 E x) (nO E lo) (nO E hi) K:=propext Iff.rfl
theorem aDg {es:Nat} {x:Opd}:b7 P o E (.sl0 es x) K=jF o es (d8 E x) K:=propext Iff.rfl
theorem aDs {x y:Opd}:b7 P o E (.shr x y) K=mR (d8 E x) (d8 E y) K:=propext Iff.rfl
theorem aC7 {n:Nat} {x:Opd}:b7 P o E (.ldv n x) K=jJ o n (d8 E x) K:=propext Iff.rfl
@[congr] theorem aGa {o o' : List Ob} {n : Nat} {x x' : SV} (ho : o = o') (hx : x = x') : jJ o n x K = jJ o' n x' K := by rw [ho, hx]
def onW (b:Bool) (A B:Prop):Prop:=(b=true->A)/\(b=false->B)
@[congr] theorem aKn {b b' : Bool} {A B : Prop} (h : b = b') : onW b A B = onW b' A B := by rw [h]
theorem aFs {A B:Prop}:onW true A B=A:=propext ⟨fun h=>h.1 rfl,fun h=>⟨fun _=>h,fun h=>(by cases h)⟩⟩
theorem aDG {A B:Prop}:onW false A B=B:=propext ⟨fun h=>h.2 rfl,fun h=>⟨fun h=>(by cases h),fun _=>h⟩⟩
theorem aKF {n:Nat} {x:D}:jJ o n (.d x) K=gI o (some n) (.d x) K:=propext Iff.rfl
theorem aJW {n r es i off:Nat} {p:List Nat}:jJ o n (.el r es i off p) K=gI o (some n) (.el r es i off p) K:=propext Iff.rfl
theorem aGG {n r off:Nat} {p:List Nat}:jJ o n (.ptr r off p) K=fO (l5 o r) fun z=>fN (dG p z=off) (fO (fC p z) fun y=>onW y.noOwn (cE o (some n) y K) (fN (p=[]) (fN (y.size=n) (fN (y.isStB=true) (K (.vw r)))))):=by
 apply propext
 simp only [jJ,fO]
 have st:∀ y:D,(∃ ys,y=.st ys)↔y.isStB=true:=by
  intro y
  constructor
  ·rintro ⟨ys,rfl⟩; rfl
  ·intro h; cases y<;>first|exact ⟨_,rfl⟩|cases h
 constructor
 ·rintro ⟨z,hz,ho,y,hy,h1,h2⟩
  exact ⟨z,eN.2 hz,ho,y,hy,h1,fun hn=>⟨(h2 hn).1,(h2 hn).2.1,(st y).1 (h2 hn).2.2.1,(h2 hn).2.2.2⟩⟩
 ·rintro ⟨z,hz,ho,y,hy,h1,h2⟩
  exact ⟨z,eN.1 hz,ho,y,hy,h1,fun hn=>⟨(h2 hn).1,(h2 hn).2.1,(st y).2 (h2 hn).2.2.1,(h2 hn).2.2.2⟩⟩
theorem aDc {m es:Nat} {x i:Opd}:b7 P o E (.iar m es x i) K=lI m es (d8 E x) (d8 E i) K:=propext Iff.rfl
@[congr] theorem aGb {m es : Nat} {x x' i i' : SV} (hx : x = x') (hi : i = i') : lI m es x i K = lI m es x' i' K := by rw [hx, hi]
theorem aLA {m es:Nat} {xs:D} {k:IntKind} {n:Int}:lI m es (.d (.ptr (.st xs))) (.d (.int k n)) K=fN (0<=n/\n < (m:Int)) (fN (xs.pre n.toNat=n.toNat * es) (fO (xs.nth n.toNat) fun y=>K (.d (.ptr y)))):=propext Iff.rfl
theorem aIw {m es r off:Nat} {p:List Nat} {k:IntKind} {n:Int}:lI m es (.ptr r off p) (.d (.int k n)) K=fN (0<=n/\n < (m:Int)) (K (.ptr r (off + n.toNat * es) (p ++ [n.toNat]))):=propext Iff.rfl
theorem aEN {neg:Bool} {ks:List Nat} {x y:Opd}:b7 P o E (.sq neg ks x y) K=p8 neg ks (d8 E x) (d8 E y) K:=propext Iff.rfl
@[congr] theorem aGA {neg : Bool} {ks : List Nat} {x x' y y' : SV} (hx : x = x') (hy : y = y') : p8 neg ks x y K = p8 neg ks x' y' K := by rw [hx, hy]
theorem aNx {neg:Bool} {ks:List Nat} {a b:D}:p8 neg ks (.d (.st a)) (.d (.st b)) K=fO (o5 ks a b) fun r=>K (.d (.bool (if neg then !r else r))):=propext Iff.rfl
theorem aDw {x:Opd}:b7 P o E (.b2s x) K=mX o (d8 E x) K:=propext Iff.rfl
@[congr] theorem aGh {o o' : List Ob} {es : Nat} {x x' : SV} {lo lo' hi hi' : Option SV} (ho : o = o') (hx : x = x') (hl : lo = lo') (hh : hi = hi') : fI o es x lo hi K = fI o' es x' lo' hi' K := by rw [ho, hx, hl, hh]
@[congr] theorem aGr {o o' : List Ob} {es : Nat} {x x' : SV} (ho : o = o') (hx : x = x') : jF o es x K = jF o' es x' K := by rw [ho, hx]
@[congr] theorem aF8 {x x' y y' : SV} (hx : x = x') (hy : y = y') : mR x y K = mR x' y' K := by rw [hx, hy]
@[congr] theorem aGe {o o' : List Ob} {x x' : SV} (ho : o = o') (hx : x = x') : mX o x K = mX o' x' K := by rw [ho, hx]
@[congr] theorem aIf {lo lo' hi hi' : Option SV} {n n' : Nat} (hl : lo = lo') (hh : hi = hi') (hn : n = n') : fR lo hi n KN = fR lo' hi' n' KN := by rw [hl, hh, hn]
theorem aLN {es es':Nat} {xs:D} {lo hi:Option SV}:fI o es (.d (.sl false es' xs)) lo hi K=fN (es'=es) (fR lo hi xs.len fun a b=>K (.d (.sl false es (xs.sub a b)))):=propext Iff.rfl
theorem aHY {es:Nat} {lo hi:Option SV}:fI o es .nil lo hi K=fR lo hi 0 fun _ _=>K .nil:=propext Iff.rfl
def zQ (o:List Ob) (r es:Nat):Option (Bool×D):=match nI o r with
 | some (.sl ow es' xs)=>if es'=es then some (ow,xs) else none
 | _=>none
theorem oS {r es:Nat} {ow:Bool} {xs:D}:zQ o r es=some (ow,xs)↔o[r]?=some (.val (.sl ow es xs)):=by
 unfold zQ
 split
 ·rename_i ow' es' xs' h
  rw [dW] at h
  split
  ·rename_i he
   subst he
   rw [h]
   simp only [Option.some.injEq,Prod.mk.injEq,Ob.val.injEq,D.sl.injEq,true_and]
  ·rename_i he
   rw [h]
   constructor
   ·intro h; cases h
   ·intro h; injection h with h; injection h with h; injection h with _ h2 _; exact absurd h2 he
 ·rename_i h
  constructor
  ·intro h; cases h
  ·intro h2; exact absurd (dW.2 h2) (h _ _ _)
theorem aG6 {es r:Nat} {lo hi:Option SV}:fI o es (.own r) lo hi K=fO (zQ o r es) fun x=>k0 r es x.1 x.2 lo hi K:=by
 apply propext
 simp only [fI,fO]
 constructor
 ·rintro ⟨ow,xs,h,hk⟩; exact ⟨(ow,xs),oS.2 h,hk⟩
 ·rintro ⟨⟨ow,xs⟩,h,hk⟩; exact ⟨ow,xs,oS.1 h,hk⟩
def xP (s:St) (es:Nat) (z:D) (x:SV) (KK:SV->St->Prop):Prop:=match x with
 | .win r es' lo=>es'=es/\∃ xs,s.o[r]?=some (.val (.sl true es xs))/\KK .any ⟨iH (cW r) s.e,s.o.set r (.val (.sl true es (aBm lo z xs)))⟩
 | _=>False
theorem aLD {es:Nat} {z:D} {x:Opd}:cY P s (.clr es z x) KK=xP s es z (jP s.e x) KK:=by
 simp only [cY,xP]
 all_goals
  generalize jP s.e x=q
  match q with
  | .d _=>rfl
  | .undef=>rfl
  | .any=>rfl
  | .nil=>rfl
  | .own _=>rfl
  | .ptr _ _ _=>rfl
  | .el _ _ _ _ _=>rfl
  | .vw _=>rfl
  | .win _ _ _=>rfl
  | .tup _=>rfl
@[congr] theorem aIL {s s' : St} {es : Nat} {z : D} {x x' : SV} (hs : s = s') (hx : x = x') : xP s es z x KK = xP s' es z x' KK := by rw [hs, hx]
theorem aIv {es es' r lo:Nat} {z:D}:xP s es z (.win r es' lo) KK=fN (es'=es) (fO (aA0 s.o r es) fun xs=>KK .any ⟨iH (cW r) s.e,s.o.set r (.val (.sl true es (aBm lo z xs)))⟩):=by
 apply propext
 simp only [xP,fN,fO]
 constructor
 ·rintro ⟨h,xs,h1,hk⟩; exact ⟨h,xs,gK.2 h1,hk⟩
 ·rintro ⟨h,xs,h1,hk⟩; exact ⟨h,xs,gK.1 h1,hk⟩
theorem aLH {es:Nat} {x hi:Opd}:cY P s (.cut es x hi) KK=kC s es (jP s.e x) (jP s.e hi) KK:=propext Iff.rfl
@[congr] theorem aGd {s s' : St} {es : Nat} {x x' hi hi' : SV} (hs : s = s') (hx : x = x') (hh : hi = hi') : kC s es x hi KK = kC s' es x' hi' KK := by rw [hs, hx, hh]
theorem aK8 {es:Nat} {y:D} {hi:SV}:kC s es (.d y) hi KK=fI s.o es (.d y) none (some hi) fun sv=>KK sv s:=propext Iff.rfl
theorem aG2 {es:Nat} {hi:SV}:kC s es .nil hi KK=fI s.o es .nil none (some hi) fun sv=>KK sv s:=propext Iff.rfl
theorem aHI {es r:Nat} {hi:SV}:kC s es (.own r) hi KK=fO (zQ s.o r es) fun x=>lE s r es x.1 x.2 hi KK:=by
 apply propext
 simp only [kC,fO]
 constructor
 ·rintro ⟨ow,xs,h,hk⟩; exact ⟨(ow,xs),oS.2 h,hk⟩
 ·rintro ⟨⟨ow,xs⟩,h,hk⟩; exact ⟨ow,xs,oS.1 h,hk⟩
@[congr] theorem aGk {s s' : St} {r es : Nat} {ow ow' : Bool} {xs xs' : D} {hi hi' : SV} (hs : s = s') (ho : ow = ow') (hx : xs = xs') (hh : hi = hi') : lE s r es ow xs hi KK = lE s' r es ow' xs' hi' KK := by rw [hs, ho, hx, hh]
theorem aLP {r es:Nat} {xs:D} {hi:SV}:lE s r es false xs hi KK=fR none (some hi) xs.len fun a b=>KK (.d (.sl false es (xs.sub a b))) s:=by unfold lE; rfl
theorem aKL {r es:Nat} {xs:D} {k:IntKind} {b:Int}:lE s r es true xs (.d (.int k b)) KK=fN (0<=b/\b<=xs.len) (onV fun v=>KK (.own s.o.length) ⟨iH (cW r) s.e,s.o.set r (.val (.lnk 0 v)) ++ [.val (.sl true es (xs.takeD b.toNat))]⟩):=propext Iff.rfl
@[congr] theorem aGl {r es : Nat} {ow ow' : Bool} {xs xs' : D} {lo lo' hi hi' : Option SV} (ho : ow = ow') (hx : xs = xs') (hl : lo = lo') (hh : hi = hi') : k0 r es ow xs lo hi K = k0 r es ow' xs' lo' hi' K := by rw [ho, hx, hl, hh]
theorem aKO {r es:Nat} {xs:D} {lo hi:Option SV}:k0 r es false xs lo hi K=fR lo hi xs.len fun a b=>K (.d (.sl false es (xs.sub a b))):=by
 unfold k0; rfl
theorem aLf {r es:Nat} {xs:D} {k:IntKind} {a:Int}:k0 r es true xs (some (.d (.int k a))) none K=fN (0<=a/\a < xs.len) (K (.win r es a.toNat)):=propext Iff.rfl
theorem aJM {n:Nat}:fR none none n KN=KN 0 n:=propext Iff.rfl
theorem aK2 {n:Nat} {k:IntKind} {a:Int}:fR (some (.d (.int k a))) none n KN=fN (0<=a/\a<=n) (KN a.toNat n):=propext Iff.rfl
theorem aLu {n:Nat} {k:IntKind} {b:Int}:fR none (some (.d (.int k b))) n KN=fN (0<=b/\b<=n) (KN 0 b.toNat):=propext Iff.rfl
theorem aJR {n:Nat} {k k':IntKind} {a b:Int}:fR (some (.d (.int k a))) (some (.d (.int k' b))) n KN=fN (0<=a/\a<=b/\b<=n) (KN a.toNat b.toNat):=propext Iff.rfl
theorem aKH {es es':Nat} {ow:Bool} {xs:D}:jF o es (.d (.sl ow es' xs)) K=K (.d (.sl true es .nil)):=propext Iff.rfl
theorem aGJ {es:Nat}:jF o es .nil K=K .nil:=propext Iff.rfl
theorem aGN {es r:Nat}:jF o es (.own r) K=fO (lenOf o r) fun _=>K (.d (.sl true es .nil)):=by
 apply propext
 simp only [jF,fO,lenOf]
 constructor
 ·rintro ⟨⟨es',xs,ow,h⟩,hk⟩
  exact ⟨xs.len,by rw [dW.2 h],hk⟩
 ·rintro ⟨n,h,hk⟩
  split at h
  ·rename_i ow es' xs h1
   exact ⟨⟨es',xs,ow,dW.1 h1⟩,hk⟩
  ·cases h
theorem aLM {k k':IntKind} {a n:Int}:mR (.d (.int k a)) (.d (.int k' n)) K=fN (0<=n) (K (.d (.int k (a.fdiv (2 ^ (min n.toNat k.bits)))))):=propext Iff.rfl
theorem aGY:mX o .nil K=K (.d (.str [])):=propext Iff.rfl
theorem aJ0 {s:List UInt8}:jD (.d (.str s)) none none K=K (.d (.str s)):=propext Iff.rfl
theorem aLh {s:List UInt8} {k:IntKind} {a:Int}:jD (.d (.str s)) (some (.d (.int k a))) none K=fN (0<=a/\a<=s.length) (K (.d (.str (s.drop a.toNat)))):=propext and_assoc.symm
theorem aLl {s:List UInt8} {k:IntKind} {b:Int}:jD (.d (.str s)) none (some (.d (.int k b))) K=fN (0<=b/\b<=s.length) (K (.d (.str (s.take b.toNat)))):=propext and_assoc.symm
theorem aJY {s:List UInt8} {k k':IntKind} {a b:Int}:jD (.d (.str s)) (some (.d (.int k a))) (some (.d (.int k' b))) K=fN (0<=a/\a<=b/\b<=s.length) (K (.d (.str ((s.take b.toNat).drop a.toNat)))) :=
 propext ⟨fun ⟨h1,h2,h3,h4⟩=>⟨⟨h1,h2,h3⟩,h4⟩,fun ⟨⟨h1,h2,h3⟩,h4⟩=>⟨h1,h2,h3,h4⟩⟩
def sB (g:FuncId) (xs:Option D) (K:SV->Prop):Prop:=fO xs fun xs=>K (.d (.clo g xs))
theorem aB1 {g:FuncId} {caps:List Opd}:b7 P o E (.clos g caps) K=sB g (sU (evL E caps)) K:=by
 rw [aCn]
 apply propext
 simp only [b7,sB,fO]
 constructor
 ·intro h
  split at h
  ·rename_i xs hx; exact ⟨xs,hx,h⟩
  ·exact h.elim
 ·rintro ⟨xs,hx,h⟩
  rw [hx]; exact h
@[congr] theorem aIj {g : FuncId} {xs xs' : Option D} (h : xs = xs') : sB g xs K = sB g xs' K := by rw [h]
theorem aF4 {g:FuncId} {xs:D}:sB g (some xs) K=K (.d (.clo g xs)):=by simp [sB,fO]
def tW (P:PG) (o:List Ob) (f:SV) (as:List SV) (K:SV->Prop):Prop:=match f with
 | .d (.clo g xs)=>(dE P.P g=true/\xs.caps=true)/\∃ ds rs,dZ o as ds/\Fn P g (ds ++ xs.list) (fun qs=>qs=rs)/\(as.all tM=true\/rs.all D.allOwn=true)/\K (nK (rs.map D.unown))
 | _=>False
theorem aAJ {f:Opd} {args:List Opd}:b7 P o E (.callV f args) K=tW P o (d8 E f) (evL E args) K:=by
 rw [aCn]
 simp only [b7,tW]
 all_goals
  generalize d8 E f=q
  match q with
  | .d (.bool _)=>rfl
  | .d (.int _ _)=>rfl
  | .d (.str _)=>rfl
  | .d (.err _)=>rfl
  | .d (.sl _ _ _)=>rfl
  | .d (.st _)=>rfl
  | .d (.ptr _)=>rfl
  | .d (.clo _ _)=>rfl
  | .d (.lnk _ _)=>rfl
  | .d .nil=>rfl
  | .d (.cons _ _)=>rfl
  | .undef=>rfl
  | .any=>rfl
  | .nil=>rfl
  | .own _=>rfl
  | .ptr _ _ _=>rfl
  | .el _ _ _ _ _=>rfl
  | .vw _=>rfl
  | .win _ _ _=>rfl
  | .tup _=>rfl
@[congr] theorem aGm {o o' : List Ob} {f f' : SV} {as as' : List SV} (ho : o = o') (hf : f = f') (h : as = as') : tW P o f as K = tW P o' f' as' K := by rw [ho, hf, h]
def qP (P:PG) (s:St) (f:SV) (as:List SV) (KK:SV->St->Prop):Prop:=match f with
 | .d (.clo g xs)=>(dE P.P g=true/\xs.caps=true)/\∃ ds R,dZ s.o as ds/\Fn P g (ds ++ xs.list) R/\∀ rs,R rs->(as.all tM=true\/rs.all D.allOwn=true)/\KK (jO (bI rs s.o).1) ⟨s.e,(bI rs s.o).2⟩
 | _=>False
theorem aGS {f:Opd} {args:List Opd}:cY P s (.callW f args) KK=qP P s (jP s.e f) (fF s.e args) KK:=by
 simp only [cY,qP]
 all_goals
  generalize jP s.e f=q
  match q with
  | .d (.bool _)=>rfl
  | .d (.int _ _)=>rfl
  | .d (.str _)=>rfl
  | .d (.err _)=>rfl
  | .d (.sl _ _ _)=>rfl
  | .d (.st _)=>rfl
  | .d (.ptr _)=>rfl
  | .d (.clo _ _)=>rfl
  | .d (.lnk _ _)=>rfl
  | .d .nil=>rfl
  | .d (.cons _ _)=>rfl
  | .undef=>rfl
  | .any=>rfl
  | .nil=>rfl
  | .own _=>rfl
  | .ptr _ _ _=>rfl
  | .el _ _ _ _ _=>rfl
  | .vw _=>rfl
  | .win _ _ _=>rfl
  | .tup _=>rfl
@[congr] theorem aGo {s s' : St} {f f' : SV} {as as' : List SV} (hs : s = s') (hf : f = f') (h : as = as') : qP P s f as KK = qP P s' f' as' KK := by rw [hs, hf, h]
theorem o6 {g:FuncId} {xs:D} {as:List SV} {ds rs:List D} (hf:Fn P g (ds ++ xs.list) (fun qs=>qs=rs)) (he:dE P.P g=true) (hc:xs.caps=true) (ha:bE s.o as=some ds) (hd:(as.all tM || rs.all D.allOwn)=true) (hk:KK (jO (bI rs s.o).1) ⟨s.e,(bI rs s.o).2⟩):qP P s (.d (.clo g xs)) as KK :=
 ⟨⟨he,hc⟩,ds,_,jL ha,hf,fun qs h=>by subst h; exact ⟨by simpa using hd,hk⟩⟩
theorem aE2 {es es' bytes:Nat} {ys:D} {kr:List Nat} {K:SV->List Ob->List Nat->Option Nat->Prop}:lU es bytes o (.d (.sl true es' .nil)) ys kr K=fN (es'=es) (fN (ys.len * bytes<=140737488355328/\ys.len<=9223372036854775807) (K (.own o.length) (o ++ [.val (.sl true es ys)]) kr none)):=propext Iff.rfl
theorem lP {α:Type} {f:α->D} (xs:List α) (a b:Nat):(dl f xs).sub a b=dl f ((xs.take b).drop a):=by
 unfold D.sub dl
 rw [eD,sI,List.map_drop,List.map_take]
theorem aDO (bs:List UInt8):bH bs=dl (fun b:UInt8=>D.int .u8 (b.toNat:Int)) bs:=by
 induction bs with
 | nil=>rfl
 | cons b bs ih=>simp only [bH,ih]; rfl
end
section
def aBV:D->Option Value
 | .int k n=>some (.int k n)
 | .bool b=>some (.bool b)
 | .str s=>some (.string ⟨s.toArray⟩)
 | _=>none
def mL:List D->Option (List Value)
 | []=>some []
 | d :: ds=>match aBV d,mL ds with
  | some v,some vs=>some (v :: vs)
  | _,_=>none
theorem u9 {w:World} {M:Nat->Prop} {d:D} {v:Value} (h:aBV d=some v):(∀ cs fp,d.rep w M cs fp->dM d cs=v/\fp=[])/\d.rep w M [v] []/\dM d [v]=v:=by
 cases d<;>simp only [aBV] at h<;>first
  |(injection h with h; subst h; exact ⟨fun cs fp hr=>⟨by rw [hr.1]; rfl,hr.2⟩,⟨rfl,rfl⟩,rfl⟩)
  | cases h
theorem t7 {w:World} {M:Nat->Prop}:∀ {ds:List D} {vs us:List Value},mL ds=some vs->b6 w M ds us []->us=vs
 | [],vs,us,h,hr=>by injection h with h; rw [hr.1,<-h]
 | d :: ds,vs,us,h,hr=>by
  obtain ⟨cs,us',f1,f2,rfl,hf,h1,h2⟩:=hr
  obtain ⟨rfl,rfl⟩:=List.append_eq_nil_iff.1 hf.symm
  unfold mL at h
  split at h
  ·rename_i v vs' hv hvs
   injection h with h
   rw [<- h,((u9 hv).1 cs [] h1).1,t7 hvs h2]
  ·cases h
theorem s6 {w:World} {M:Nat->Prop}:∀ {rs:List D} {us:List Value},mL rs=some us->b6 w M rs us []
 | [],us,h=>by injection h with h; exact ⟨h.symm,rfl⟩
 | d :: ds,us,h=>by
  unfold mL at h
  split at h
  ·rename_i v vs' hv hvs
   injection h with h
   obtain ⟨_,h2,h3⟩:=u9 (w:=w) (M:=M) hv
   exact ⟨[v],vs',[],[],by rw [<- h,h3],rfl,h2,s6 hvs⟩
  ·cases h
theorem aI8 {P:PG} {f:FuncId} {ds rs:List D} {vs us:List Value} (hd:mL ds=some vs) (hr:mL rs=some us) (h:∀ w,P.F w->Calls P.P f vs.toArray w fun e w'=>e=.returned (nP us)/\iW w w'):Fn P f ds (fun qs=>qs=rs):=by
 intro M vs' w hM hg hvs
 rw [t7 hd hvs]
 refine (h w hg.fact).mono ?_
 rintro e w' ⟨rfl,hx⟩
 exact ⟨rs,us,[],rfl,rfl,s6 hr,List.nodup_nil,(fun b hb=>by cases hb),hx⟩
theorem iW.drewN {w:World} (n:Nat):iW w (w.drewN n):=⟨rfl,rfl,rfl,Nat.le_refl _,fun _ _=>rfl⟩
end
theorem b6.unown {w:World} {M M':Nat->Prop}:∀ (ds:List D) (vs:List Value) (fp:List Nat),(∀ b,M' b->M b)->(∀ b∈fp,¬ M' b)->b6 w M ds vs fp->b6 w M' (ds.map D.unown) vs []
 | [],vs,fp,h1,h2,h=>⟨h.1,rfl⟩
 | d :: ds,vs,fp,h1,h2,h=>by
  obtain ⟨cs,us,f1,f2,rfl,rfl,h3,h4⟩:=h
  exact ⟨cs,us,[],[],by rw [iZ],rfl,dS d cs f1 h1 (fun b hb=>h2 b (List.mem_append_left _ hb)) h3,b6.unown ds us f2 h1 (fun b hb=>h2 b (List.mem_append_right _ hb)) h4⟩
theorem eO {P:PG} {f:FuncId} {ds rs:List D} (h:Fn P f ds (fun qs=>qs=rs)):Fn P f ds (fun qs=>qs=rs.map D.unown):=by
 intro M vs w hM hG hv
 refine Calls.mono (h M vs w hM hG hv) ?_
 rintro e w' ⟨rs',us,fp,he,rfl,hr,hn,hb,hx⟩
 exact ⟨_,us,[],he,rfl,b6.unown _ _ _ (fun b h=>.inl (h.resolve_right (by simp))) (fun b hb' h=>by
  rcases h with h|h
  ·have:=hM b h; have:=hb b hb'; omega
  ·simp at h) hr,by simp,by simp,hx⟩
def aCR (s:St) (x:SV) (KK:SV->St->Prop):Prop:=match x with
 | .d (.str bs)=>KK (.own s.o.length) ⟨s.e,s.o ++ [.val (.sl true 1 (bH bs))]⟩
 | _=>False
theorem aKs {P:PG} {s:St} {x:Opd} {KK:SV->St->Prop}:cY P s (.s2b x) KK=aCR s (jP s.e x) KK:=propext Iff.rfl
theorem aLc {s:St} {bs:List UInt8} {KK:SV->St->Prop}:aCR s (.d (.str bs)) KK=KK (.own s.o.length) ⟨s.e,s.o ++ [.val (.sl true 1 (bH bs))]⟩:=propext Iff.rfl
@[congr] theorem aIO {s s' : St} {x x' : SV} {KK : SV -> St -> Prop} (hs : s = s') (hx : x = x') : aCR s x KK = aCR s' x' KK := by rw [hs, hx]
theorem aJC {P:PG} {s:St} {neg:Bool} {x:Opd} {KK:SV->St->Prop}:cY P s (.snil neg x) KK=gM s.o neg (jP s.e x) fun sv=>KK sv s:=propext Iff.rfl
theorem aEv {o:List Ob} {neg:Bool} {K:SV->Prop}:gM o neg .nil K=K (.d (.bool (!neg))):=propext Iff.rfl
theorem aJT {o:List Ob} {neg ow:Bool} {es:Nat} {xs:D} {K:SV->Prop}:gM o neg (.d (.sl ow es xs)) K=aAd neg xs.len K:=propext Iff.rfl
theorem aEZ {o:List Ob} {neg:Bool} {r:Nat} {K:SV->Prop}:gM o neg (.own r) K=fO (lenOf o r) fun n=>aAd neg n K:=by
 apply propext
 simp only [gM,fO,lenOf]
 constructor
 ·rintro ⟨es,xs,ow,h,hk⟩
  exact ⟨xs.len,by rw [dW.2 h],hk⟩
 ·rintro ⟨n,h,hk⟩
  split at h
  ·rename_i ow es xs h1
   injection h with h
   subst h
   exact ⟨es,xs,ow,dW.1 h1,hk⟩
  ·cases h
theorem aBu {neg:Bool} {n:Nat} {K:SV->Prop} (h1:n=0->K (.d (.bool (!neg)))) (h2:K (.d (.bool neg))):aAd neg n K:=⟨h1,h2⟩
@[congr] theorem aF2 {o o' : List Ob} {neg : Bool} {x x' : SV} {K : SV -> Prop} (ho : o = o') (hx : x = x') : gM o neg x K = gM o' neg x' K := by rw [ho, hx]
@[congr] theorem aJ6 {neg : Bool} {n n' : Nat} {K : SV -> Prop} (h : n = n') : aAd neg n K = aAd neg n' K := by rw [h]
def aEg (o:List Ob) (r:Nat):Option (List (List UInt8×Int)):=match o[r]? with
 | some (.mp kvs)=>some kvs
 | _=>none
theorem aAg {o:List Ob} {r:Nat} {kvs:List (List UInt8×Int)}:aEg o r=some kvs↔o[r]?=some (.mp kvs):=by
 unfold aEg; split
 ·rename_i h; rw [h]; simp
 ·rename_i h; constructor
  ·intro h; cases h
  ·intro h2; exact absurd h2 (h _)
theorem aLJ {P:PG} {s:St} {KK:SV->St->Prop}:cY P s .mkm KK=KK (.own s.o.length) ⟨s.e,s.o ++ [.mp []]⟩:=propext Iff.rfl
theorem aLj {P:PG} {s:St} {m k v:Opd} {KK:SV->St->Prop}:cY P s (.ins m k v) KK=nG s (jP s.e m) (jP s.e k) (jP s.e v) KK:=propext Iff.rfl
theorem aLm {P:PG} {s:St} {m k:Opd} {KK:SV->St->Prop}:cY P s (.lkp m k) KK=mU s (jP s.e m) (jP s.e k) KK:=propext Iff.rfl
@[congr] theorem aGs {s s' : St} {m m' k k' v v' : SV} {KK : SV -> St -> Prop} (h : s = s') (h1 : m = m') (h2 : k = k') (h3 : v = v') : nG s m k v KK = nG s' m' k' v' KK := by rw [h, h1, h2, h3]
@[congr] theorem aGp {s s' : St} {m m' k k' : SV} {KK : SV -> St -> Prop} (h : s = s') (h1 : m = m') (h2 : k = k') : mU s m k KK = mU s' m' k' KK := by rw [h, h1, h2]
theorem aHl {s:St} {r:Nat} {b:List UInt8} {n:Int} {KK:SV->St->Prop}:nG s (.own r) (.d (.str b)) (.d (.int .i64 n)) KK=fO (aEg s.o r) fun kvs=>fN (lkp kvs b=none) (KK .undef ⟨iH (cW r) s.e,s.o.set r (.mp (kvs ++ [(b,n)]))⟩):=by
 apply propext
 simp only [nG,fO,fN,aAg]
theorem aGv {s:St} {r:Nat} {b:List UInt8} {KK:SV->St->Prop}:mU s (.own r) (.d (.str b)) KK=fO (aEg s.o r) fun kvs=>KK (.tup [.d (.int .i64 ((lkp kvs b).getD 0)),.d (.bool (lkp kvs b).isSome)]) s:=by
 apply propext
 simp only [mU,fO,aAg]
end Go.Pe
set_option linter.all false
set_option maxRecDepth 100000
namespace Go.Pe
open Go Go.RowKit
def wA0:=And.intro @aB9 (And.intro @aDp (And.intro @aC4 (And.intro @aDl (And.intro @aBw (And.intro @aBd (And.intro @aBT (And.intro @aBY (And.intro @zG (And.intro @aHK (And.intro @aGE (And.intro @aHH (And.intro @aKK (And.intro @aKq (And.intro @aLa (And.intro @aC0 (And.intro @aEJ (And.intro @aHB (And.intro @aBU (And.intro @zE (And.intro @aFz (And.intro @aEL (And.intro @aFq (And.intro @aIe (And.intro @aHk (And.intro @aDk (And.intro @aBB (And.intro @aAI (And.intro @yZ (And.intro @aDb (And.intro @aFa (And.intro @aFr (And.intro @aFG (And.intro @aDL (And.intro @aEp (And.intro @aEe (And.intro @aD6 (And.intro @aEG (And.intro @aDa (@aDe)))))))))))))))))))))))))))))))))))))))
def wA1:=And.intro @aBj (And.intro @aDV (And.intro @aE8 (And.intro @zI (And.intro @aBR (And.intro @aHG (And.intro @aH2 (And.intro @aHv (And.intro @aGI (And.intro @aGz (And.intro @aHq (And.intro @aJn (And.intro @aHg (And.intro @aIs (And.intro @aGK (And.intro @aHd (And.intro @aHf (And.intro @aGL (And.intro @aHN (And.intro @aG5 (And.intro @aHt (And.intro @aGO (And.intro @aHm (And.intro @aH8 (And.intro @aIB (And.intro @aJ4 (And.intro @aJu (And.intro @aI9 (And.intro @aJz (And.intro @aJH (And.intro @aJJ (And.intro @aG9 (And.intro @aKt (And.intro @aG8 (And.intro @aJr (And.intro @aHz (And.intro @aIu (And.intro @aKM (And.intro @aNa (@aJL)))))))))))))))))))))))))))))))))))))))
def wA2:=And.intro @aJd (And.intro @aHD (And.intro @aFB (And.intro @aJa (And.intro @aKr (And.intro @aKw (And.intro @aN4 (And.intro @aJU (And.intro @aK3 (And.intro @aM6 (And.intro @aJI (And.intro @aKx (And.intro @aJV (And.intro @aJb (And.intro @aEY (And.intro @aGt (And.intro @aDx (And.intro @aFL (And.intro @aKS (And.intro @aHj (And.intro @aL3 (And.intro @aLx (And.intro @aM8 (And.intro @aLG (And.intro @aHw (And.intro @aIy (And.intro @aM5 (And.intro @aJx (And.intro @aDz (And.intro @aCc (And.intro @aED (And.intro @aEo (And.intro @aJc (And.intro @aEy (And.intro @aER (And.intro @aHS (And.intro @aIA (And.intro @aKC (And.intro @aG0 (@aKI)))))))))))))))))))))))))))))))))))))))
def wA3:=And.intro @aFt (And.intro @aKY (And.intro @aK5 (And.intro @aHA (And.intro @aJo (And.intro @aJ3 (And.intro @aE7 (And.intro @aJX (And.intro @aF7 (And.intro @aJ2 (And.intro @aJ8 (And.intro @aJD (And.intro @aF0 (And.intro @aD (And.intro @aJP (And.intro @aM7 (And.intro @aM2 (And.intro @aJv (And.intro @aCX (And.intro @aDg (And.intro @aDs (And.intro @aDw (And.intro @aLN (And.intro @aHY (And.intro @aJM (And.intro @aK2 (And.intro @aLu (And.intro @aJR (And.intro @aKH (And.intro @aGJ (And.intro @aGN (And.intro @aLM (And.intro @aGY (And.intro @aJ0 (And.intro @aLh (And.intro @aLl (And.intro @aJY (And.intro @aB1 (And.intro @aF4 (@aAJ)))))))))))))))))))))))))))))))))))))))
def wA4:=And.intro @aGS (And.intro @aE2 (And.intro @aDW (And.intro @aBk (And.intro @aCD (And.intro @aAi (And.intro @aA2 (And.intro @aAT (And.intro @aGw (And.intro @aG3 (And.intro @aHb (And.intro @aJC (And.intro @aEv (And.intro @aJT (And.intro @aEZ (And.intro @aG6 (And.intro @aKO (And.intro @aLf (And.intro @aLD (And.intro @aIv (And.intro @aLH (And.intro @aK8 (And.intro @aG2 (And.intro @aHI (And.intro @aLP (And.intro @aKL (And.intro @aEN (And.intro @aNx (And.intro @aKs (And.intro @aLc (And.intro @aDc (And.intro @aLA (And.intro @aIw (And.intro @aC7 (And.intro @aKF (And.intro @aJW (And.intro @aGG (And.intro @aFs (And.intro @aDG (@aLJ)))))))))))))))))))))))))))))))))))))))
def wA5:=And.intro @aLj (And.intro @aLm (And.intro @aHl (@aGv)))
def wA:=And.intro @wA0 (And.intro @wA1 (And.intro @wA2 (And.intro @wA3 (And.intro @wA4 (@wA5)))))
def wC0:=And.intro @sX.eq_1 (And.intro @sX.eq_2 (And.intro @sX.eq_3 (And.intro @sX.eq_4 (And.intro @sX.eq_5 (And.intro @look.eq_1 (And.intro @look.eq_2 (And.intro @gO.eq_1 (@gO.eq_2))))))))
def wC:=@wC0
def wB0:=And.intro @aEU (And.intro @aIm (And.intro @aD7 (And.intro @aHC (And.intro @aGH (And.intro @aJG (And.intro @aI4 (And.intro @aH0 (And.intro @aGC (And.intro @Nat.zero_add (And.intro @Nat.add_zero (And.intro @Bool.false_eq_true (And.intro @Bool.true_eq_false (And.intro @Bool.not_true (And.intro @Bool.not_false (And.intro @Bool.and_true (And.intro @Bool.true_and (And.intro @Bool.and_false (And.intro @Bool.false_and (And.intro @Bool.or_false (And.intro @Bool.false_or (And.intro @Bool.or_true (And.intro @Bool.true_or (And.intro @true_and (And.intro @and_true (And.intro @SV.own.injEq (And.intro @SV.ptr.injEq (And.intro @not_false_eq_true (And.intro @not_true_eq_false (And.intro @decide_true (And.intro @decide_false (And.intro @Option.some.injEq.{0} (And.intro @List.getElem?_cons_zero.{0} (And.intro @List.getElem?_cons_succ.{0} (And.intro @List.getElem?_nil.{0} (And.intro @List.set_cons_zero.{0} (And.intro @List.set_cons_succ.{0} (And.intro @List.length_cons.{0} (And.intro @List.length_nil.{0} (@List.length_append.{0})))))))))))))))))))))))))))))))))))))))
def wB1:=And.intro @List.cons_append.{0} (And.intro @List.nil_append.{0} (And.intro @List.append_nil.{0} (And.intro @List.any_cons.{0} (And.intro @List.any_nil.{0} (And.intro @List.all_cons.{0} (And.intro @List.all_nil.{0} (And.intro @List.map_cons.{0,0} (And.intro @List.map_nil.{0,0} (And.intro @if_true.{0} (And.intro @if_false.{0} (And.intro @beq_self_eq_true.{0} (And.intro @ne_eq.{0} (And.intro @eq_self.{0} (And.intro @beq_iff_eq.{0} (And.intro @List.append_assoc.{0} (And.intro @Option.map_some.{0,0} (And.intro @Option.map_none.{0,0} (And.intro @List.contains_nil.{0} (And.intro @List.contains_cons.{0} (And.intro @evL.eq_1 (And.intro @evL.eq_2 (And.intro @fF.eq_1 (And.intro @fF.eq_2 (And.intro @iB.eq_1 (And.intro @iB.eq_2 (And.intro @dN.eq_1 (And.intro @dO.eq_1 (And.intro @d8.eq_1 (And.intro @d8.eq_2 (And.intro @jP.eq_1 (And.intro @jP.eq_2 (And.intro @nO.eq_1 (And.intro @nO.eq_2 (And.intro @iR.eq_1 (And.intro @iR.eq_2 (And.intro @jY.eq_1 (And.intro @jY.eq_2 (And.intro @l5.eq_1 (@nI.eq_1)))))))))))))))))))))))))))))))))))))))
def wB2:=And.intro @aA0.eq_1 (And.intro @zQ.eq_1 (And.intro @aCB.eq_1 (And.intro @elS.eq_1 (And.intro @elS.eq_2 (And.intro @aBa.eq_1 (And.intro @lenOf.eq_1 (And.intro @cS.eq_1 (And.intro @cS.eq_2 (And.intro @iH.eq_1 (And.intro @iH.eq_2 (And.intro @oO.eq_1 (And.intro @oO.eq_2 (And.intro @cV.eq_1 (And.intro @cV.eq_2 (And.intro @eY.eq_1 (And.intro @eY.eq_2 (And.intro @eY.eq_3 (And.intro @eY.eq_4 (And.intro @eY.eq_5 (And.intro @eY.eq_6 (And.intro @cW.eq_1 (And.intro @cW.eq_2 (And.intro @cW.eq_3 (And.intro @bI.eq_1 (And.intro @bI.eq_2 (And.intro @jO.eq_1 (And.intro @jO.eq_2 (And.intro @nK.eq_1 (And.intro @nK.eq_2 (And.intro @D.pre.eq_1 (And.intro @D.pre.eq_2 (And.intro @D.nth.eq_1 (And.intro @D.nth.eq_2 (And.intro @D.nth.eq_3 (And.intro @D.size.eq_1 (And.intro @D.size.eq_2 (And.intro @D.size.eq_3 (And.intro @D.size.eq_4 (@D.len.eq_1)))))))))))))))))))))))))))))))))))))))
def wB3:=And.intro @D.len.eq_2 (And.intro @fC.eq_1 (And.intro @fC.eq_2 (And.intro @fC.eq_3 (And.intro @dG.eq_1 (And.intro @dG.eq_2 (And.intro @dG.eq_3 (And.intro @gG.eq_1 (And.intro @gG.eq_2 (And.intro @gG.eq_3 (And.intro @D.setN.eq_1 (And.intro @D.setN.eq_2 (And.intro @D.setN.eq_3 (And.intro @D.noOwn.eq_1 (And.intro @D.noOwn.eq_2 (And.intro @D.noOwn.eq_3 (And.intro @D.noOwn.eq_4 (And.intro @D.noOwn.eq_5 (And.intro @D.noOwn.eq_6 (And.intro @D.unown.eq_1 (And.intro @D.unown.eq_2 (And.intro @D.unown.eq_3 (And.intro @D.unown.eq_4 (And.intro @D.unown.eq_5 (And.intro @D.unown.eq_6 (And.intro @D.app.eq_1 (And.intro @D.app.eq_2 (And.intro @eP.eq_1 (And.intro @eP.eq_2 (And.intro @List.replicate.eq_1.{0} (And.intro @List.replicate.eq_2.{0} (And.intro @aCA.eq_1 (And.intro @aEg.eq_1 (And.intro @k9.eq_1 (And.intro @k9.eq_2 (And.intro @k9.eq_3 (And.intro @unT.eq_1 (And.intro @unT.eq_2 (And.intro @aA1.eq_1 (@aA1.eq_2)))))))))))))))))))))))))))))))))))))))
def wB4:=And.intro @sU.eq_1 (And.intro @sU.eq_2 (And.intro @sU.eq_3 (And.intro @D.isOne.eq_1 (And.intro @D.isOne.eq_2 (And.intro @D.isOne.eq_3 (And.intro @D.isOne.eq_4 (And.intro @D.caps.eq_1 (And.intro @D.caps.eq_2 (And.intro @D.caps.eq_3 (And.intro @D.list.eq_1 (And.intro @D.list.eq_2 (And.intro @jW.eq_1 (And.intro @jW.eq_2 (And.intro @cI.eq_1 (And.intro @cI.eq_2 (And.intro @dD.eq_1 (And.intro @dD.eq_2 (And.intro @dD.eq_3 (And.intro @dD.eq_4 (And.intro @dD.eq_5 (And.intro @dD.eq_6 (And.intro @dD.eq_7 (And.intro @dD.eq_8 (And.intro @dD.eq_9 (And.intro @oC.eq_1 (And.intro @wH.eq_1 (And.intro @wH.eq_2 (And.intro @pS.eq_1 (And.intro @pS.eq_2 (And.intro @pS.eq_3 (And.intro @o5.eq_1 (And.intro @o5.eq_2 (And.intro @o5.eq_3 (And.intro @o5.eq_4 (And.intro @o5.eq_5 (And.intro @mG.eq_1 (And.intro @mG.eq_2 (And.intro @mI.eq_1 (@mI.eq_2)))))))))))))))))))))))))))))))))))))))
def wB5:=And.intro @rU.eq_1 (And.intro @lG.eq_1 (And.intro @lG.eq_2 (And.intro @aGF.eq_1 (And.intro @aGF.eq_2 (And.intro @pJ.eq_1 (And.intro @pJ.eq_2 (And.intro @pJ.eq_3 (And.intro @pJ.eq_4 (And.intro @eqO.eq_1 (And.intro @eqO.eq_2 (And.intro @tK.eq_1 (And.intro @tK.eq_2 (And.intro @pY.eq_1 (And.intro @nE.eq_1 (And.intro @nE.eq_2 (@nE.eq_3))))))))))))))))
def wB:=And.intro @wB0 (And.intro @wB1 (And.intro @wB2 (And.intro @wB3 (And.intro @wB4 (@wB5)))))
end Go.Pe
set_option linter.all false
namespace Go.Pe
open Go Go.RowKit
theorem bL {P:PG} {s:St} {Q:Exit->St->Prop} {x:MC} (n:Nat) (S:Nat->St) (inv:Nat->Prop) (h0:cT s (S 0)) (hi:inv 0)
  (step:∀ i,i < n->inv i->decide ((i:Int) < (n:Int))=true->(0:Int)<=(i:Int)->bZ P x (S i) (lF (fun s'=>∃ y,cT s' (S y)/\(y<=n/\inv y)/\n - y < n - i) Q))
  (done:inv n->decide ((n:Int) < (n:Int))=false->bZ P x (S n) (lF (fun s'=>∃ y,cT s' (S y)/\(y<=n/\inv y)/\n - y < n - n) Q)):bZ P (.loop x) s Q:=by
 refine cZ S (fun i=>i<=n/\inv i) (fun i=>n - i) 0 h0 ⟨Nat.zero_le _,hi⟩ ?_
 rintro i ⟨h1,h2⟩
 by_cases h:i < n
 ·exact step i h h2 (decide_eq_true (by omega)) (by omega)
 ·have e:i=n:=by omega
  subst e
  exact done h2 (decide_eq_false (by omega))
theorem cK {s':St} {n i:Nat} {S:Nat->St} {inv:Nat->Prop} (hw:cT s' (S (i + 1))) (hi:i < n) (h:inv (i + 1)):∃ y,cT s' (S y)/\(y<=n/\inv y)/\n - y < n - i:=⟨i + 1,hw,⟨by omega,h⟩,by omega⟩
theorem aA8 {P:PG} {s:St} {Q:Exit->St->Prop} {x:MC} (ts:List (Nat×Nat)) (n:Nat) (S:Nat->St) (inv:Nat->Prop) (hn:aAG ts s) (h0:cT (aF6 ts s) (S 0)) (hi:inv 0)
  (step:∀ i,i < n->inv i->decide ((i:Int) < (n:Int))=true->(0:Int)<=(i:Int)->bZ P x (S i) (lF (fun s'=>∃ y,cT s' (S y)/\(y<=n/\inv y)/\n - y < n - i) Q))
  (done:inv n->decide ((n:Int) < (n:Int))=false->bZ P x (S n) (lF (fun s'=>∃ y,cT s' (S y)/\(y<=n/\inv y)/\n - y < n - n) Q)):bZ P (.loop x) s Q:=by
 refine aBv ts S (fun i=>i<=n/\inv i) (fun i=>n - i) 0 hn h0 ⟨Nat.zero_le _,hi⟩ ?_
 rintro i ⟨h1,h2⟩
 by_cases h:i < n
 ·exact step i h h2 (decide_eq_true (by omega)) (by omega)
 ·have e:i=n:=by omega
  subst e
  exact done h2 (decide_eq_false (by omega))
theorem qT {p:Nat->Prop} {i:Nat} (h:∀ j,j < i->p j) (hi:p i):∀ j,j < i + 1->p j:=fun j hj=>by
 by_cases e:j=i
 ·subst e; exact hi
 ·exact h j (by omega)
end Go.Pe
set_option linter.all false
namespace Go.Pe
open Go Go.RowKit
def aE (q:Nat) (y:D):SV->SV
 | .ptr r off p=>if r=q then (if off=0/\p=[] then .d (.ptr y) else .any) else .ptr r off p
 | s=>if cV q s then .any else s
def aF (q:Nat) (y:D):eA->eA
 | []=>[]
 |(t,s) :: e=>(t,aE q y s) :: aF q y e
theorem uS (q:Nat) (y:D):∀ (e:eA) (t:Nat),look (aF q y e) t=aE q y (look e t)
 | [],t=>by simp [aF,look,aE,cV,eY]
 |(k,s) :: e,t=>by
  simp only [aF,look]
  by_cases h:k=t
  ·simp only [h,if_true]
  ·simp only [h,if_false]; exact uS q y e t
theorem dU {s:St} (q:Nat) {x:D} (hq:s.o[q]?=some (.box x)):cT s ⟨aF q x.unown s.e,s.o.set q .dead⟩:=by
 intro c C a w hr
 focus
  have hql:=aK hq
  have hlen:=hr.wd.len
  obtain ⟨oc,hC⟩:∃ oc,C[q]?=some oc:=⟨C[q]'(by omega),List.getElem?_eq_getElem _⟩
  have hCl:=aK hC
  have hnC:=bC.1 hr.wd.nodup
  let C':=C.set q { oc with fp:=[] }
  have get:∀ (j:Nat) (od:OC),C'[j]?=some od->(j=q/\od={ oc with fp:=[] })\/(j≠q/\C[j]?=some od):=by
   intro j od hj
   rw [List.getElem?_set] at hj
   by_cases e:q=j
   ·rw [if_pos e,if_pos (by omega)] at hj; injection hj with hj; exact .inl ⟨e.symm,hj.symm⟩
   ·rw [if_neg e] at hj; exact .inr ⟨fun h=>e h.symm,hj⟩
  have hsub:∀ b∈cC C',b∈cC C/\b ∉ oc.fp:=by
   intro b hb
   obtain ⟨j,od,hj,hb'⟩:=aO.1 hb
   rcases get j od hj with ⟨_,rfl⟩|⟨hne,hj⟩
   ·cases hb'
   ·exact ⟨aO.2 ⟨j,od,hj,hb'⟩,fun h=>hnC.2 j q od oc hne hj hC b hb' h⟩
  have hmem:∀ b∈cC C',(b∈cC C\/w.heap.size<=b)/\b < w.heap.size:=fun b hb=>⟨.inl (hsub b hb).1,hr.wd.lt b (hsub b hb).1⟩
  have hg:=Went.of_ext (iW.refl w) (fun _=>False)
  have hX:∀ b,(fun _=>False:Nat->Prop) b->b∈cC C:=fun b hb=>hb.elim
  have hwd:RelW c (s.o.set q .dead) C' w:=by
   have hold:∀ (p r:Nat) (v:Value),(s.o.set q .dead)[p]?=some (.tag r v)->s.o[p]?=some (.tag r v):=by
    intro p r v hp
    rw [List.getElem?_set] at hp
    by_cases e:q=p
    ·rw [if_pos e] at hp
     split at hp
     ·injection hp with hp; cases hp
     ·cases hp
    ·rw [if_neg e] at hp; exact hp
   refine hr.wd.upd hg hX (by simp [C',hlen]) ?_ ?_ hmem (fun p r v hp=>.inl (hold p r v hp)) (fun p r v od _ h=>by
    by_cases e:q=r
    ·subst e
     rw [hC] at h
     injection h with h
     subst h
     exact ⟨{ oc with fp:=[] },by rw [List.getElem?_set]; simp [hCl],rfl⟩
    ·exact ⟨od,by rw [List.getElem?_set,if_neg e]; exact h,rfl⟩)
   ·intro j ob ocj h1 h2
    rcases get j ocj h2 with ⟨e,rfl⟩|⟨hne,h3⟩
    ·rw [e,List.getElem?_set,if_pos rfl,if_pos hql] at h1
     injection h1 with h1
     subst h1
     exact .inr rfl
    ·rw [List.getElem?_set,if_neg (fun h=>hne h.symm)] at h1
     exact .inl ⟨h1,h3,fun _ _ h=>h⟩
   ·refine bC.2 ⟨fun j od hj=>?_,fun j i od oe hne hj hi b hb hb'=>?_⟩
    ·rcases get j od hj with ⟨_,rfl⟩|⟨_,hj⟩
     ·exact List.nodup_nil
     ·exact hnC.1 j od hj
    ·rcases get j od hj with ⟨_,rfl⟩|⟨_,hj⟩
     ·cases hb
     ·rcases get i oe hi with ⟨_,rfl⟩|⟨_,hi⟩
      ·cases hb'
      ·exact hnC.2 j i od oe hne hj hi b hb hb'
  refine ⟨C',hr.tmps,hr.defers,fun t=>?_,hwd,hr.fix⟩
  simp only [uS]
  have hv:=hr.env t
  generalize look s.e t=sv at *
  generalize a.tmps.getD t Go.undef=v at *
  have other:∀ sv:SV,(∀ xs,sv≠.tup xs)->eY q sv=false->a6 w (Ms c C) C sv v->a6 w (Ms c C') C' sv v:=by
   intro sv hn h0 hv
   refine mC (dI.upd (X:=fun _=>False) hg hX hmem ?_ ?_ ?_)
   ·intro r od h1 h2
    have hne:r≠q:=fun e=>by rw [e,h0] at h1; cases h1
    exact ⟨od,by rw [List.getElem?_set,if_neg (fun h=>hne h.symm)]; exact h2,rfl,rfl⟩
   ·intro r od od' h1 h2 h3 h4
    subst h1
    have hne:r≠q:=fun e=>by rw [e] at h0; simp [eY] at h0
    rw [List.getElem?_set,if_neg (fun h=>hne h.symm),h2] at h4
    injection h4 with h4
    subst h4
    exact ⟨h3,fun h=>h⟩
   ·cases sv<;>first|exact hv|exact absurd rfl (hn _)
  cases sv with
  | ptr r off p =>
   simp only [aE]
   by_cases e:r=q
   ·subst e
    rw [if_pos rfl]
    by_cases e2:off=0/\p=[]
    ·rw [if_pos e2]
     obtain ⟨rfl,rfl⟩:=e2
     obtain ⟨oc1,h1,h2⟩:=hv
     rw [hC] at h1
     injection h1 with h1
     subst h1
     obtain ⟨cs,fps,h3,h4,h5⟩:=hr.wd.obs r _ oc hq hC
     subst h2
     have hblk:¬ Ms c C' oc.blk:=by
      rintro (hm|hm)
      ·exact hr.wd.apart oc.blk (aO.2 ⟨r,oc,hC,by rw [h5]; simp⟩) hm
      ·exact (hsub oc.blk hm).2 (by rw [h5]; simp)
     refine jS (dS _ _ _ ?_ ?_ h4) (eU.of_row h3 hblk)
     ·intro b hb
      rcases hb with hb|hb
      ·exact .inl hb
      ·exact .inr (hsub b hb).1
     ·intro b hb hm
      rcases hm with hm|hm
      ·exact hr.wd.apart b (aO.2 ⟨r,oc,hC,by rw [h5]; simp [hb]⟩) hm
      ·exact (hsub b hm).2 (by rw [h5]; simp [hb])
    ·rw [if_neg e2]; trivial
   ·rw [if_neg e]
    exact other _ (fun xs h=>by cases h) (by simp [eY,e]) hv
  | tup xs =>
   simp only [aE]
   split
   ·trivial
   ·rename_i h0
    obtain ⟨vs,k1,k2,k3⟩:=hv
    refine ⟨vs,k1,k2,fun i sx u hsi hu=>?_⟩
    have hx0:eY q sx=false:=by
     simp only [cV,List.any_eq_true,not_exists,not_and,Bool.not_eq_true] at h0
     exact h0 sx (List.mem_of_getElem? hsi)
    refine dI.upd (X:=fun _=>False) hg hX hmem ?_ ?_ (k3 i sx u hsi hu)
    ·intro r od h1 h2
     have hne:r≠q:=fun e=>by rw [e,hx0] at h1; cases h1
     exact ⟨od,by rw [List.getElem?_set,if_neg (fun h=>hne h.symm)]; exact h2,rfl,rfl⟩
    ·intro r od od' h1 h2 h3 h4
     subst h1
     have hne:r≠q:=fun e=>by rw [e] at hx0; simp [eY] at hx0
     rw [List.getElem?_set,if_neg (fun h=>hne h.symm),h2] at h4
     injection h4 with h4
     subst h4
     exact ⟨h3,fun h=>h⟩
  | any=>trivial
  | undef=>exact hv
  | d y=>exact other _ (fun xs h=>by cases h) rfl hv
  | nil=>exact hv
  | own r =>
   simp only [aE]
   split
   ·trivial
   ·rename_i h0; exact other _ (fun xs h=>by cases h) (by simpa [cV] using h0) hv
  | el r es i off p =>
   simp only [aE]
   split
   ·trivial
   ·rename_i h0; exact other _ (fun xs h=>by cases h) (by simpa [cV] using h0) hv
  | vw r =>
   simp only [aE]
   split
   ·trivial
   ·rename_i h0; exact other _ (fun xs h=>by cases h) (by simpa [cV] using h0) hv
  | win r es lo =>
   simp only [aE]
   split
   ·trivial
   ·rename_i h0; exact other _ (fun xs h=>by cases h) (by simpa [cV] using h0) hv
theorem aJN {s:St} (q:Nat) {x:D} (hq:s.o[q]?=some (.val x)):cT s ⟨iV q x.unown s.e,s.o.set q .dead⟩:=fun c C a w hr=>by
 have h:=uU q hr
 unfold i6 at h
 rw [hq] at h
 exact h
end Go.Pe
set_option linter.all false
namespace Go.Pe
open Go Go.RowKit
end Go.Pe
set_option linter.all false
namespace Go.Pe
open Go Go.RowKit
section
variable {P : Program} {n r : Nat} {ops : Array Oper} {Q : Exit -> Act -> World -> Prop}
end
section
variable {c : Ctx} {ob : List Ob} {C : List OC} {E : Nat -> SV} {a : Act} {w : World} {s : St} {ops : Array Oper} {r n : Nat}
end
section
variable {c : Ctx} {r : Nat} {s : St} {Q : Exit -> St -> Prop}
end
end Go.Pe
set_option linter.all false
namespace Go.Pe
open Go Go.RowKit
def fT {α:Type} (p:α->Bool) (xs:List α):Int:=match xs.findIdx? p with
 | some i=>(i:Int)
 | none=>-1
theorem lZ {α:Type} {p:α->Bool} {xs:List α} {i:Nat} {r:α} (hr:xs[i]?=some r) (hp:p r=true) (h:∀ (j:Nat) (s:α),j < i->xs[j]?=some s->p s=false):fT p xs=(i:Int):=by
 have hi:=aK hr
 have e:xs.findIdx? p=some i:=by
  rw [List.findIdx?_eq_some_iff_getElem]
  refine ⟨hi,?_,fun j hj=>?_⟩
  ·rw [List.getElem?_eq_getElem hi] at hr; injection hr with hr; rw [hr]; exact hp
  ·have:=h j (xs[j]'(by omega)) hj (List.getElem?_eq_getElem _)
   simp [this]
 simp only [fT,e]
theorem kM {α:Type} {p:α->Bool} {xs:List α} (h:∀ (j:Nat) (s:α),xs[j]?=some s->p s=false):fT p xs=-1:=by
 have e:xs.findIdx? p=none:=by
  rw [List.findIdx?_eq_none_iff]
  intro x hx
  obtain ⟨j,hj⟩:=List.getElem?_of_mem hx
  exact h j x hj
 simp only [fT,e]
theorem pB {α:Type} {p:α->Bool} {xs:List α}:decide (0<=fT p xs)=xs.any p:=by
 cases h:xs.findIdx? p with
 | none =>
  have h1:=h
  rw [List.findIdx?_eq_none_iff] at h
  have:xs.any p=false:=by rw [List.any_eq_false]; intro x hx; simp [h x hx]
  simp [fT,h1,this]
 | some i =>
  have h1:=h
  rw [List.findIdx?_eq_some_iff_getElem] at h
  obtain ⟨hi,hp,_⟩:=h
  have:xs.any p=true:=by rw [List.any_eq_true]; exact ⟨_,List.getElem_mem hi,hp⟩
  simp [fT,h1,this]
theorem zM {α:Type} {p:α->Bool} {xs:List α} (h:0<=fT p xs):∃ (i:Nat) (r:α),fT p xs=(i:Int)/\xs[i]?=some r/\p r=true:=by
 cases e:xs.findIdx? p with
 | none=>simp [fT,e] at h
 | some i =>
  have h1:=e
  rw [List.findIdx?_eq_some_iff_getElem] at h1
  obtain ⟨hi,hp,_⟩:=h1
  exact ⟨i,xs[i],by simp [fT,e],List.getElem?_eq_getElem hi,hp⟩
theorem aE0 {α:Type} {p:α->Bool} {xs:List α} (h:¬ 0<=fT p xs):fT p xs=-1:=by
 cases e:xs.findIdx? p with
 | none=>simp [fT,e]
 | some i=>simp [fT,e] at h
theorem iM {o:List Ob} {K:SV->Prop} {n:Int}:cE o none (iD n) K=K (.d (.int .i64 n)):=by simp [iD,cE,D.noOwn]
theorem jU (v:List Int) (n:Int):v.any (fun x=>decide (n=x))=v.contains n:=by
 induction v with
 | nil=>rfl
 | cons a v ih=>simp only [List.any_cons,List.contains_cons,ih]; congr 1
end Go.Pe
