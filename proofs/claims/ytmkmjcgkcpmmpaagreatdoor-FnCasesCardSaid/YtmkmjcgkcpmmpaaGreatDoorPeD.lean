/-
 A layer for walks of Go functions aBJ their compact code (part D): data and where they lie,contracts,the operations,the walk of code. Own work,the same in every claim of this set.
-/
import Derived.Test.YtmkmjcgkcpmmpaaGreatDoorPeC
import Derived.ProofKit
import Derived.Deep.Slices
import Derived.Lib.AtoiErrMem
import Derived.RangeFuncNested
import Derived.RangeFuncCalls
import Derived.OrdersIn
import Derived.OwnWalkIn
namespace Go.Pe
open Go Go.RowKit
def jK {α:Type} (x:Option α) (K:α->Prop):Prop:=∃ y,x=some y/\K y
def jD (c:Prop) (K:Prop):Prop:=c/\K
def onI (k:IntKind) (n:Int) (K:SV->Prop):Prop:=(cV k n/\K (.d (.int k n)))\/K (.d (.int k (k.wrap n)))
theorem aIc {α:Type} {y:α} {K:α->Prop}:jK (some y) K=K y:=by simp [jK]
theorem aV {K:Prop}:jD True K=K:=by simp [jD]
theorem bK {c K:Prop} (h:c) (k:K):jD c K:=⟨h,k⟩
theorem oA {α:Type} {x:Option α} {K:α->Prop} (y:α) (h:x=some y) (k:K y):jK x K:=⟨y,h,k⟩
theorem bA {k:IntKind} {n:Int} {K:SV->Prop} (h:cV k n) (hk:K (.d (.int k n))):onI k n K:=.inl ⟨h,hk⟩
theorem uE {k:IntKind} {n:Int} {K:SV->Prop} (hk:K (.d (.int k (k.wrap n)))):onI k n K:=.inr hk
@[congr] theorem aNO {α : Type} {x x' : Option α} {K : α -> Prop} (h : x = x') : jK x K = jK x' K := by rw [h]
@[congr] theorem aNU {c c' : Prop} {K : Prop} (h : c = c') : jD c K = jD c' K := by rw [h]
@[congr] theorem aNQ {k : IntKind} {n n' : Int} {K : SV -> Prop} (h : n = n') : onI k n K = onI k n' K := by rw [h]
def oR (o:List Ob) (r:Nat):Option D:=match o[r]? with
 | some (.box z)=>some z
 | _=>none
def oV (o:List Ob) (r:Nat):Option D:=match o[r]? with
 | some (.val z)=>some z
 | _=>none
def aCv (o:List Ob) (r es:Nat):Option D:=match o[r]? with
 | some (.val (.sl true es' xs))=>if es'=es then some xs else none
 | _=>none
theorem iL {o:List Ob} {r:Nat} {z:D}:oR o r=some z↔o[r]?=some (.box z):=by
 unfold oR; split
 ·rename_i h; rw [h]; simp
 ·rename_i h; constructor
  ·intro h; cases h
  ·intro h2; exact absurd h2 (h z)
theorem fV {o:List Ob} {r:Nat} {z:D}:oV o r=some z↔o[r]?=some (.val z):=by
 unfold oV; split
 ·rename_i h; rw [h]; simp
 ·rename_i h; constructor
  ·intro h; cases h
  ·intro h2; exact absurd h2 (h z)
theorem j7 {o:List Ob} {r es:Nat} {z:D}:aCv o r es=some z↔o[r]?=some (.val (.sl true es z)):=by
 unfold aCv; split
 ·rename_i es' xs h; rw [h]
  split
  ·rename_i e; subst e; simp
  ·rename_i e; simp [e]
 ·rename_i h; constructor
  ·intro h; cases h
  ·intro h2; exact absurd h2 (h _ _)
def aFJ (o:List Ob) (r es:Nat):Option (Bool×D):=match o[r]? with
 | some (.val (.sl ow es' xs))=>if es'=es then some (ow,xs) else none
 | _=>none
theorem aBk {o:List Ob} {r es:Nat} {ow:Bool} {z:D}:aFJ o r es=some (ow,z)↔o[r]?=some (.val (.sl ow es z)):=by
 unfold aFJ; split
 ·rename_i ow' es' xs h; rw [h]
  split
  ·rename_i e; subst e; simp
  ·rename_i e; simp [e]
 ·rename_i h; constructor
  ·intro h; cases h
  ·intro h2; exact absurd h2 (h _ _ _)
section
variable {P : PG} {s : St} {o : List Ob} {E : Nat -> SV} {K : SV -> Prop} {KK : SV -> St -> Prop}
theorem aLe {mo:MO}:mB P s true mo KK=eJ P s mo KK:=propext Iff.rfl
theorem aL6 {mo:MO}:mB P s false mo KK=dJ P s.o (look s.e) mo fun sv=>KK sv s:=propext Iff.rfl
theorem aGg {x:Opd}:dJ P o E (.mov x) K=K (gF E x):=propext Iff.rfl
def rB (c a b:SV) (K:SV->Prop):Prop:=match c with
 | .d (.bool t)=>(t=true->K a)/\(t=false->K b)
 | _=>False
theorem aEK {c x y:Opd}:dJ P o E (.pick c x y) K=rB (gF E c) (gF E x) (gF E y) K:=propext Iff.rfl
theorem aDI {a b:SV}:rB (.d (.bool true)) a b K=K a:=by simp [rB]
theorem aBG {a b:SV}:rB (.d (.bool false)) a b K=K b:=by simp [rB]
theorem aK {a b:SV} {t:Bool} (h1:t=true->K a) (h2:t=false->K b):rB (.d (.bool t)) a b K:=⟨h1,h2⟩
@[congr] theorem aJ3 {c c' a a' b b' : SV} (h : c = c') (h1 : a = a') (h2 : b = b') : rB c a b K = rB c' a' b' K := by rw [h, h1, h2]
theorem aGI {op:BinOp} {x y:Opd}:dJ P o E (.bin op x y) K=jR op (gF E x) (gF E y) K:=propext Iff.rfl
theorem aIS {op:BinOp} {x y:Opd}:dJ P o E (.bb op x y) K=qQ op (gF E x) (gF E y) K:=propext Iff.rfl
theorem aJw {op:BinOp} {x y:Opd}:dJ P o E (.ie op x y) K=rK op (gF E x) (gF E y) K:=propext Iff.rfl
theorem aI1 {op:UnOp} {x:Opd}:dJ P o E (.un op x) K=qY op (gF E x) K:=propext Iff.rfl
def xB (x:SV) (K:SV->Prop):Prop:=match x with
 | .d (.ptr y)=>K (.d (.ptr y))
 | .ptr r off p=>K (.ptr r off p)
 | .el r es i off p=>K (.el r es i off p)
 | .d (.clo g xs)=>K (.d (.clo g xs))
 | _=>False
theorem aGl {x:Opd}:dJ P o E (.nck x) K=xB (gF E x) K:=propext Iff.rfl
theorem aHz {agg:Option Nat} {x:Opd}:dJ P o E (.ld agg x) K=j5 o agg (gF E x) K:=propext Iff.rfl
theorem aIL {f off:Nat} {x:Opd}:dJ P o E (.fa f off x) K=bY f off (gF E x) K:=propext Iff.rfl
theorem aJr {es:Nat} {x i:Opd}:dJ P o E (.ia es x i) K=oL o es (gF E x) (gF E i) K:=propext Iff.rfl
theorem aIx {x i:Opd}:dJ P o E (.ix x i) K=qK (gF E x) (gF E i) K:=propext Iff.rfl
theorem aGQ {b:Bool} {x:Opd}:dJ P o E (.len b x) K=jW o b (gF E x) K:=propext Iff.rfl
theorem aGp {x:Opd} {i:Nat}:dJ P o E (.ext x i) K=pI (gF E x) i K:=propext Iff.rfl
theorem aEz {k:IntKind} {x:Opd}:dJ P o E (.conv k x) K=mY k (gF E x) K:=propext Iff.rfl
theorem aGj {x:Opd} {lo hi:Option Opd}:dJ P o E (.sls x lo hi) K=lW (gF E x) (qJ E lo) (qJ E hi) K:=propext Iff.rfl
theorem aId {b:Bool} {x y:Opd}:dJ P o E (.mx b x y) K=tT b (gF E x) (gF E y) K:=propext Iff.rfl
def evL (E:Nat->SV):List Opd->List SV
 | []=>[]
 | p :: ps=>gF E p :: evL E ps
theorem aEW (ps:List Opd):evL E ps=ps.map (gF E):=by
 induction ps with
 | nil=>rfl
 | cons p ps ih=>simp [evL,ih]
def xX (P:PG) (o:List Ob) (f:FuncId) (as:List SV) (K:SV->Prop):Prop :=
 ∃ ds rs,gB o as ds/\Fn P f ds (fun qs=>qs=rs)/\(as.all xL=true\/rs.all D.allOwn=true)/\K (qH (rs.map D.unown))
theorem aDs {f:FuncId} {args:List Opd}:dJ P o E (.callP f args) K=xX P o f (evL E args) K:=by rw [aEW]; rfl
@[congr] theorem aJz {f : FuncId} {as as' : List SV} (h : as = as') : xX P o f as K = xX P o f as' K := by rw [h]
def jZ (P:PG) (s:St) (f:FuncId) (args:List Opd) (as:List SV) (K:SV->St->Prop):Prop:=as=i7 s.e args->eJ P s (.call f args) K
theorem aEO {f:FuncId} {args:List Opd}:eJ P s (.call f args) KK=jZ P s f args (i7 s.e args) KK:=propext ⟨fun h _=>h,fun h=>h rfl⟩
@[congr] theorem aK5 {f : FuncId} {args : List Opd} {as as' : List SV} {s' : St} (h2 : s = s') (h : as = as') : jZ P s f args as KK = jZ P s' f args as' KK := by rw [h, h2]
def cW (o:List Ob):SV->Option D
 | .d x=>some x
 | .own r=>(oV o r).map D.unown
 | .vw r=>match oR o r with
  | some (.st xs)=>some (.st xs.unown)
  | _=>none
 | _=>none
def cA (o:List Ob):List SV->Option (List D)
 | []=>some []
 | s :: ss=>match cW o s,cA o ss with
  | some x,some xs=>some (x :: xs)
  | _,_=>none
theorem aKQ {s:SV} {x:D} (h:cW o s=some x):aDy o s x:=by
 unfold cW at h
 split at h
 ·injection h with h; exact h.symm
 ·rename_i r
  obtain ⟨y,h1,h2⟩:=Option.map_eq_some_iff.1 h
  exact ⟨y,fV.1 h1,h2.symm⟩
 ·rename_i r
  split at h
  ·rename_i xs h1
   injection h with h
   exact ⟨xs,iL.1 h1,h.symm⟩
  ·cases h
 ·cases h
theorem mD:∀ {ss:List SV} {xs:List D},cA o ss=some xs->gB o ss xs
 | [],xs,h=>by injection h with h; exact h.symm
 | s :: ss,xs,h=>by
  unfold cA at h
  split at h
  ·rename_i x ys h1 h2
   injection h with h
   exact ⟨x,ys,h.symm,aKQ h1,mD h2⟩
  ·cases h
theorem a6 {f:FuncId} {as:List SV} {ds rs:List D} (hf:Fn P f ds (fun qs=>qs=rs)) (ha:cA o as=some ds) (hd:(as.all xL || rs.all D.allOwn)=true) (hk:K (qH (rs.map D.unown))):xX P o f as K :=
 ⟨ds,rs,mD ha,hf,by simpa using hd,hk⟩
theorem aZ {f:FuncId} {args:List Opd} {as:List SV} {ds rs:List D} (hf:Fn P f ds (fun qs=>qs=rs)) (ha:cA s.o as=some ds) (hd:(as.all xL || rs.all D.allOwn)=true) (hk:KK (l6 (cO rs s.o).1) ⟨s.e,(cO rs s.o).2⟩):jZ P s f args as KK:=by
 intro e
 subst e
 exact ⟨_,_,iT.refl s,fun _=>.inl ⟨ds,_,mD ha,hf,fun qs h=>by subst h; exact ⟨by simpa using hd,hk⟩⟩⟩
theorem nH {f:FuncId} {args:List Opd} {as:List SV} {ds:List D} {R:List D->Prop} (hf:Fn P f ds R) (ha:cA s.o as=some ds) (hk:∀ rs,R rs->(as.all xL=true\/rs.all D.allOwn=true)/\KK (l6 (cO rs s.o).1) ⟨s.e,(cO rs s.o).2⟩):jZ P s f args as KK:=by
 intro e
 subst e
 exact ⟨_,_,iT.refl s,fun _=>.inl ⟨ds,R,mD ha,hf,hk⟩⟩
theorem rX {f:FuncId} {args:List Opd} {bx:Bool} {r:Nat} {ss:List SV} {x y:D} {ds rs:List D} (hf:wP P f bx x ds (fun x' qs=>x'=y/\qs=rs)) (hor:s.o[r]?=some (fN bx x)) (ha:cA s.o ss=some ds) (hd:ss.all xL=true)
  (hk:KK (l6 (cO rs (s.o.set r (fN bx y))).1) ⟨kW (eK r) s.e,(cO rs (s.o.set r (fN bx y))).2⟩):jZ P s f args (fI bx r :: ss) KK:=by
 intro e
 refine ⟨_,_,iT.refl s,fun _=>.inr (.inl ⟨bx,r,x,ss,ds,_,e.symm,hor,mD ha,hd,hf,?_⟩)⟩
 rintro x' rs' ⟨rfl,rfl⟩
 exact hk
theorem dF {f:FuncId} {args:List Opd} {bx:Bool} {r:Nat} {ss:List SV} {x:D} {ds:List D} {R:D->List D->Prop} (hf:wP P f bx x ds R) (hor:s.o[r]?=some (fN bx x)) (ha:cA s.o ss=some ds) (hd:ss.all xL=true)
  (hk:∀ y rs,R y rs->KK (l6 (cO rs (s.o.set r (fN bx y))).1) ⟨kW (eK r) s.e,(cO rs (s.o.set r (fN bx y))).2⟩):jZ P s f args (fI bx r :: ss) KK:=by
 intro e
 exact ⟨_,_,iT.refl s,fun _=>.inr (.inl ⟨bx,r,x,ss,ds,R,e.symm,hor,mD ha,hd,hf,hk⟩)⟩
theorem cE {f:FuncId} {args:List Opd} {r:Nat} {ss:List SV} {x:D} {ds:List D} {L:List (Value×Nat×D)} {R:D->List D->Prop} (hf:yW P f x L ds R) (hor:s.o[r]?=some (.box x)) (ha:cA s.o ss=some ds) (hd:ss.all (aA6 r)=true) (hL:nZ s.o L)
  (hk:∀ y rs,R y rs->(y.allOwn=true/\rs.all D.allOwn=true)/\KK (l6 (cO rs (s.o.set r (fN true y))).1) ⟨kW (eK r) s.e,(cO rs (s.o.set r (fN true y))).2⟩):jZ P s f args (fI true r :: ss) KK:=by
 intro e
 exact ⟨_,_,iT.refl s,fun _=>.inr (.inr (.inl (.inr (.inr ⟨r,x,ss,ds,L,R,e.symm,hor,mD ha,hd,hL,hf,hk⟩))))⟩
theorem dW {f:FuncId} {args:List Opd} {as:List SV} (q:Nat) (h:jZ P (lA q s) f args (i7 (lA q s).e args) KK):jZ P s f args as KK:=by
 intro _
 obtain ⟨α,S,hS,h⟩:=h rfl
 exact ⟨_,_,(iT.frz q s).sig fun _=>hS,fun u=>h u.2⟩
theorem mQ {f:FuncId} {args:List Opd} {as:List SV} {α:Type} (S:α->St) (hk:iT s S) (h:∀ x,jZ P (S x) f args (i7 (S x).e args) KK):jZ P s f args as KK:=by
 intro _
 have hx:∀ x,∃ (β:Type) (T:β->St),iT (S x) T/\∀ u,aMy P (T u) f (i7 (T u).e args) KK\/aMu P (T u) f (i7 (T u).e args) KK\/aMt P (T u) f (i7 (T u).e args) KK\/aHX P (T u) f (i7 (T u).e args) KK:=fun x=>h x rfl
 exact ⟨_,_,hk.sig fun x=>Classical.choose_spec (Classical.choose_spec (hx x)) |>.1,fun u=>(Classical.choose_spec (Classical.choose_spec (hx u.1))).2 u.2⟩
theorem aLI {k:IntKind} {a b:Int}:gE .add k a b K=onI k (a + b) K:=propext Iff.rfl
theorem aK6 {k:IntKind} {a b:Int}:gE .sub k a b K=onI k (a - b) K:=propext Iff.rfl
theorem aKl {k:IntKind} {a b:Int}:gE .mul k a b K=onI k (a * b) K:=propext Iff.rfl
theorem aJ5 {k:IntKind} {a b:Int}:gE .quo k a b K=jD (b≠0) (onI k (a.tdiv b) K):=propext Iff.rfl
theorem aKK {k:IntKind} {a b:Int}:gE .rem k a b K=jD (b≠0) (K (.d (.int k (a.tmod b)))):=propext Iff.rfl
theorem aJ8 {k:IntKind} {a b:Int}:gE .and k a b K=K (.d (.int k (bits .and k a b))):=propext Iff.rfl
theorem aM9 {k:IntKind} {a b:Int}:gE .or k a b K=K (.d (.int k (bits .or k a b))):=propext Iff.rfl
theorem aLG {k:IntKind} {a b:Int}:gE .xor k a b K=K (.d (.int k (bits .xor k a b))):=propext Iff.rfl
theorem aLz {k:IntKind} {a b:Int}:gE .eql k a b K=K (.d (.bool (decide (a=b)))):=propext Iff.rfl
theorem aLa {k:IntKind} {a b:Int}:gE .neq k a b K=K (.d (.bool (!decide (a=b)))):=propext Iff.rfl
theorem aKz {k:IntKind} {a b:Int}:gE .lss k a b K=K (.d (.bool (decide (a < b)))):=propext Iff.rfl
theorem aJ2 {k:IntKind} {a b:Int}:gE .leq k a b K=K (.d (.bool (decide (a<=b)))):=propext Iff.rfl
theorem aLt {k:IntKind} {a b:Int}:gE .gtr k a b K=K (.d (.bool (decide (b < a)))):=propext Iff.rfl
theorem aL7 {k:IntKind} {a b:Int}:gE .geq k a b K=K (.d (.bool (decide (b<=a)))):=propext Iff.rfl
theorem aLD {op:BinOp} {k:IntKind} {a b:Int}:jR op (.d (.int k a)) (.d (.int k b)) K=gE op k a b K:=by simp [jR]
theorem aKX {op:BinOp} {a b:List UInt8}:jR op (.d (.str a)) (.d (.str b)) K=n9 op a b K:=propext Iff.rfl
theorem aLC {a b:List UInt8}:n9 .add a b K=jD (a.length + b.length<=9223372036854775807) (K (.d (.str (a ++ b)))):=propext Iff.rfl
theorem aLN {a b:List UInt8}:n9 .eql a b K=K (.d (.bool (decide (a=b)))):=propext Iff.rfl
theorem aKn {a b:List UInt8}:n9 .neq a b K=K (.d (.bool (!decide (a=b)))):=propext Iff.rfl
theorem aKR {a b:List UInt8}:n9 .lss a b K=K (.d (.bool (Op.bytesLess a b))):=propext Iff.rfl
theorem aNa {a b:Bool}:qQ .eql (.d (.bool a)) (.d (.bool b)) K=K (.d (.bool (a == b))):=propext Iff.rfl
theorem aMz {a b:Bool}:qQ .neq (.d (.bool a)) (.d (.bool b)) K=K (.d (.bool (!(a == b)))):=propext Iff.rfl
theorem aMV {a:Bool}:rK .eql (.d (.err a)) (.d (.err true)) K=K (.d (.bool a)):=propext Iff.rfl
theorem aNm {a:Bool}:rK .neq (.d (.err a)) (.d (.err true)) K=K (.d (.bool (!a))):=propext Iff.rfl
theorem aM2 {b:Bool}:qY .not (.d (.bool b)) K=K (.d (.bool (!b))):=propext Iff.rfl
theorem aMZ {k:IntKind} {n:Int}:qY .neg (.d (.int k n)) K=onI k (-n) K:=propext Iff.rfl
theorem aKD {k k':IntKind} {n:Int}:mY k (.d (.int k' n)) K=onI k n K:=propext Iff.rfl
theorem aOn {k k':IntKind} {b:Bool} {n m:Int}:tT b (.d (.int k n)) (.d (.int k' m)) K=K (.d (.int k (if b then max n m else min n m))):=propext Iff.rfl
theorem aKt {a:List UInt8}:jW o true (.d (.str a)) K=K (.d (.int .i64 a.length)):=propext Iff.rfl
theorem aNv {ow:Bool} {es:Nat} {xs:D}:jW o false (.d (.sl ow es xs)) K=K (.d (.int .i64 xs.len)):=propext Iff.rfl
theorem aLJ:jW o false .nil K=K (.d (.int .i64 0)):=propext Iff.rfl
def lenOf (o:List Ob) (r:Nat):Option Nat:=match oV o r with
 | some (.sl _ _ xs)=>some xs.len
 | _=>none
theorem aLk {r:Nat}:jW o false (.own r) K=jK (lenOf o r) fun n=>K (.d (.int .i64 n)):=by
 apply propext
 simp only [jW,jK,lenOf]
 constructor
 ·rintro ⟨es,xs,ow,h,hk⟩
  exact ⟨xs.len,by rw [fV.2 h],hk⟩
 ·rintro ⟨n,h,hk⟩
  split at h
  ·rename_i ow es xs h1
   injection h with h
   subst h
   exact ⟨es,xs,ow,fV.1 h1,hk⟩
  ·cases h
theorem aN0 {b:List UInt8} {k:IntKind} {n:Int}:qK (.d (.str b)) (.d (.int k n)) K=jD (0<=n) (jK (b[n.toNat]?) fun u=>K (.d (.int .u8 (u.toNat:Int)))):=by
 apply propext
 simp only [qK,jD,jK]
 constructor
 ·rintro ⟨u,h1,h2,h3⟩; exact ⟨h1,u,h2,h3⟩
 ·rintro ⟨h1,u,h2,h3⟩; exact ⟨u,h1,h2,h3⟩
theorem aP7 {es es':Nat} {ow:Bool} {xs:D} {k:IntKind} {n:Int}:oL o es (.d (.sl ow es' xs)) (.d (.int k n)) K=jD (es'=es) (jD (0<=n) (jK (xs.nth n.toNat) fun y=>K (.d (.ptr y)))):=by
 apply propext
 simp only [oL,jD,jK]
 constructor
 ·rintro ⟨h,u,h1,h2,h3⟩; exact ⟨h,h1,u,h2,h3⟩
 ·rintro ⟨h,h1,u,h2,h3⟩; exact ⟨h,u,h1,h2,h3⟩
theorem aNc {r es:Nat} {k:IntKind} {n:Int}:oL o es (.own r) (.d (.int k n)) K=jK (aFJ o r es) fun p=>jD (0<=n) (jK (p.2.nth n.toNat) fun y=>K (elS p.1 r es n.toNat y)):=by
 apply propext
 simp only [oL,jD,jK]
 constructor
 ·rintro ⟨ow,xs,y,h1,h2,h3,h4⟩; exact ⟨(ow,xs),aBk.2 h1,h2,y,h3,h4⟩
 ·rintro ⟨⟨ow,xs⟩,h1,h2,y,h3,h4⟩; exact ⟨ow,xs,y,aBk.1 h1,h2,h3,h4⟩
theorem aNt {k:IntKind} {n:Int}:dY o none (.int k n) K=K (.d (.int k n)):=by simp [dY,D.noOwn]
theorem aLT {b:Bool}:dY o none (.bool b) K=K (.d (.bool b)):=by simp [dY,D.noOwn]
theorem aIJ {b:List UInt8}:dY o none (.str b) K=K (.d (.str b)):=by simp [dY,D.noOwn]
theorem aMY {b:Bool}:dY o none (.err b) K=K (.d (.err b)):=by simp [dY,D.noOwn]
theorem aPq {b:Bool} {es:Nat} {xs:D}:dY o none (.sl b es xs) K=jD ((D.sl b es xs).noOwn=true) (K (.d (.sl b es xs))):=propext Iff.rfl
def aFG (o:List Ob) (q:Nat):Option (Nat×Value):=match o[q]? with
 | some (.tag r v)=>some (r,v)
 | _=>none
theorem aBc {o:List Ob} {q r:Nat} {v:Value}:aFG o q=some (r,v)↔o[q]?=some (.tag r v):=by
 unfold aFG
 constructor
 ·intro h
  split at h
  ·rename_i r' v' h1; injection h with h; injection h with h2 h3; subst h2 h3; exact h1
  ·cases h
 ·intro h; rw [h]
theorem aMW {q:Nat} {v:Value}:dY o none (.lnk q v) K=jK (aFG o q) fun p=>jD (p.2=v) (K (.own p.1)):=by
 apply propext
 simp only [dY,jK,jD]
 constructor
 ·rintro ⟨r,h1,h2⟩; exact ⟨(r,v),aBc.2 h1,rfl,h2⟩
 ·rintro ⟨⟨r,v'⟩,h1,h2,h3⟩; simp only at h2 h3; subst h2; exact ⟨r,aBc.1 h1,h3⟩
theorem aOv {n:Nat} {xs:D}:dY o (some n) (.st xs) K=jD (xs.size=n) (jD (xs.noOwn=true) (K (.d (.st xs)))):=propext Iff.rfl
theorem aQe {agg:Option Nat} {y:D}:j5 o agg (.d (.ptr y)) K=dY o agg y K:=propext Iff.rfl
theorem aNn {agg:Option Nat} {r off:Nat} {p:List Nat}:j5 o agg (.ptr r off p) K=jK (oR o r) fun z=>jD (eV p z=off) (jK (iS p z) fun y=>dY o agg y K):=by
 apply propext
 simp only [j5,jD,jK]
 constructor
 ·rintro ⟨z,h1,h2,h3⟩; exact ⟨z,iL.2 h1,h2,h3⟩
 ·rintro ⟨z,h1,h2,h3⟩; exact ⟨z,iL.1 h1,h2,h3⟩
theorem aOu {agg:Option Nat} {r es i off:Nat} {p:List Nat}:j5 o agg (.el r es i off p) K=jK (aCv o r es) fun xs=>jK (xs.nth i) fun z=>jD (eV p z=off) (jK (iS p z) fun y=>dY o agg y K):=by
 apply propext
 simp only [j5,jD,jK]
 constructor
 ·rintro ⟨xs,z,h1,h2,h3,h4⟩; exact ⟨xs,j7.2 h1,z,h2,h3,h4⟩
 ·rintro ⟨xs,h1,z,h2,h3,h4⟩; exact ⟨xs,z,j7.1 h1,h2,h3,h4⟩
theorem aRF {f off:Nat} {xs:D}:bY f off (.d (.ptr (.st xs))) K=jD (xs.pre f=off) (jK (xs.nth f) fun y=>K (.d (.ptr y))):=propext Iff.rfl
theorem aM5 {f off r off':Nat} {p:List Nat}:bY f off (.ptr r off' p) K=K (.ptr r (off' + off) (p ++ [f])):=propext Iff.rfl
theorem aPH {f off r es i off':Nat} {p:List Nat}:bY f off (.el r es i off' p) K=K (.el r es i (off' + off) (p ++ [f])):=propext Iff.rfl
theorem aMO {xs:List SV} {i:Nat}:pI (.tup xs) i K=jK xs[i]? K:=propext Iff.rfl
def onT (t:Option (D×List Ob×List Nat)) (K:D->List Ob->List Nat->Prop):Prop:=∃ x,t=some x/\K x.1 x.2.1 x.2.2
@[congr] theorem aNV {t t' : Option (D × List Ob × List Nat)} {K : D -> List Ob -> List Nat -> Prop} (h : t = t') : onT t K = onT t' K := by rw [h]
theorem aNp {x:D} {K:D->List Ob->List Nat->Prop}:kR o (.d x) K=K x o []:=propext Iff.rfl
theorem aIf {r:Nat} {K:D->List Ob->List Nat->Prop}:kR o (.own r) K=jK (oV o r) fun x=>K x (o.set r .dead) [r]:=by
 apply propext
 simp only [kR,jK]
 constructor
 ·rintro ⟨x,h1,h2⟩; exact ⟨x,fV.2 h1,h2⟩
 ·rintro ⟨x,h1,h2⟩; exact ⟨x,fV.1 h1,h2⟩
def aCM (o:List Ob) (r:Nat):Option D:=match oR o r with
 | some (.st xs)=>some xs
 | _=>none
theorem o9 {r:Nat} {z:D}:aCM o r=some z↔o[r]?=some (.box (.st z)):=by
 unfold aCM; split
 ·rename_i h; rw [iL] at h; rw [h]; simp
 ·rename_i h; constructor
  ·intro h; cases h
  ·intro h2; exact absurd (iL.2 h2) (h z)
theorem aLP {r:Nat} {K:D->List Ob->List Nat->Prop}:kR o (.vw r) K=jK (aCM o r) fun xs=>K (.st xs) (o.set r .dead) [r]:=by
 apply propext
 simp only [kR,jK]
 constructor
 ·rintro ⟨x,h1,h2⟩; exact ⟨x,o9.2 h1,h2⟩
 ·rintro ⟨x,h1,h2⟩; exact ⟨x,o9.1 h1,h2⟩
theorem aG4 {r off:Nat} {p:List Nat} {y:D} {K:List Ob->Nat->Prop}:pQ o (.ptr r off p) y K=jK (oR o r) fun z=>jD (eV p z=off) (jK (iS p z) fun u=>jD (y.size=u.size) (K (o.set r (.box (j6 p z y))) r)):=by
 apply propext
 simp only [pQ,jK,jD]
 constructor
 ·rintro ⟨z,u,h1,h2,h3,h4,h5⟩; exact ⟨z,iL.2 h1,h2,u,h3,h4,h5⟩
 ·rintro ⟨z,h1,h2,u,h3,h4,h5⟩; exact ⟨z,u,iL.1 h1,h2,h3,h4,h5⟩
theorem aHv {r es i off:Nat} {p:List Nat} {y:D} {K:List Ob->Nat->Prop}:pQ o (.el r es i off p) y K=jK (aCv o r es) fun xs=>jK (xs.nth i) fun z=>jD (eV p z=off) (jK (iS p z) fun u=>jD (y.size=u.size) (K (o.set r (.val (.sl true es (xs.setN i (j6 p z y))))) r)):=by
 apply propext
 simp only [pQ,jK,jD]
 constructor
 ·rintro ⟨xs,z,u,h1,h2,h3,h4,h5,h6⟩; exact ⟨xs,j7.2 h1,z,h2,h3,u,h4,h5,h6⟩
 ·rintro ⟨xs,h1,z,h2,h3,u,h4,h5,h6⟩; exact ⟨xs,z,u,j7.1 h1,h2,h3,h4,h5,h6⟩
theorem aPG {x:Opd}:eJ P s (.box x) KK=kR s.o (lZ s.e x) fun y o1 kr=>jD (y.isV=true) (KK (.ptr o1.length 0 []) ⟨eF kr s.e,o1 ++ [.box y]⟩):=propext Iff.rfl
theorem aJV {z:D}:eJ P s (.alloc z) KK=KK (.ptr s.o.length 0 []) ⟨s.e,s.o ++ [.box z]⟩:=propext Iff.rfl
theorem aSs {n:Nat} {x v:Opd}:eJ P s (.st n x v) KK=kR s.o (lZ s.e v) fun y o1 kr=>jD (y.isV=true) (jD (y.size=n) (jD (kr.all (fun r=>!eI r (lZ s.e x))=true) (pQ o1 (lZ s.e x) y fun o2 r=>KK .undef ⟨kW (eK r) (eF kr s.e),o2⟩))):=propext Iff.rfl
theorem aPa {es bytes:Nat} {x y:Opd}:eJ P s (.app es bytes x y) KK=aB3 es bytes s.o (lZ s.e x) (lZ s.e y) fun sv o2 kr kk=>KK sv ⟨rL kk (eF kr s.e),o2⟩:=propext Iff.rfl
theorem aP9 {es len:Nat} {z:D} {ps:List (Nat×Opd)}:eJ P s (.bs es len z ps) KK=fX s.o (iM (List.replicate len z)) (kN s.e ps) fun xs o1 kr=>KK (.own o1.length) ⟨eF kr s.e,o1 ++ [.val (.sl true es xs)]⟩:=propext Iff.rfl
def aCZ (s:St) (xs:D) (o1:List Ob) (kr:List Nat) (b:Bool) (KK:SV->St->Prop):Prop:=if b then KK (.d (.st xs)) ⟨eF kr s.e,o1⟩ else KK (.own o1.length) ⟨eF kr s.e,o1 ++ [.val (.st xs)]⟩
theorem aOp {z:D} {ps:List (Nat×Opd)}:eJ P s (.bld z ps) KK=fX s.o z (kN s.e ps) fun xs o1 kr=>aCZ s xs o1 kr xs.noOwn KK:=propext Iff.rfl
@[congr] theorem aMw {xs xs' : D} {o1 o1' : List Ob} {kr : List Nat} {b b' : Bool} (h1 : xs = xs') (h2 : o1 = o1') (h3 : b = b') : aCZ s xs o1 kr b KK = aCZ s xs' o1' kr b' KK := by rw [h1, h2, h3]
theorem aLy {xs:D} {o1:List Ob} {kr:List Nat}:aCZ s xs o1 kr true KK=KK (.d (.st xs)) ⟨eF kr s.e,o1⟩:=propext Iff.rfl
theorem aJ4 {xs:D} {o1:List Ob} {kr:List Nat}:aCZ s xs o1 kr false KK=KK (.own o1.length) ⟨eF kr s.e,o1 ++ [.val (.st xs)]⟩:=propext Iff.rfl
def aL8 (s:St) (es bytes:Nat) (z:D) (n:SV) (KK:SV->St->Prop):Prop:=match n with
 | .d (.int _ m)=>(0<=m/\(bytes:Int) * m<=281474976710656/\m<=9223372036854775807)/\KK (.own s.o.length) ⟨s.e,s.o ++ [.val (.sl true es (iM (List.replicate m.toNat z)))]⟩
 | _=>False
theorem aSL {es bytes:Nat} {z:D} {n:Opd}:eJ P s (.mk es bytes z n) KK=aL8 s es bytes z (lZ s.e n) KK:=propext Iff.rfl
theorem aMD {es bytes:Nat} {z:D} {k:IntKind} {m:Int}:aL8 s es bytes z (.d (.int k m)) KK=jD (0<=m/\(bytes:Int) * m<=281474976710656/\m<=9223372036854775807) (KK (.own s.o.length) ⟨s.e,s.o ++ [.val (.sl true es (iM (List.replicate m.toNat z)))]⟩):=propext Iff.rfl
theorem aF3 {xs:D} {K:D->List Ob->List Nat->Prop}:fX o xs [] K=K xs o []:=propext Iff.rfl
theorem aEG {xs:D} {i:Nat} {sv:SV} {ps:List (Nat×SV)} {K:D->List Ob->List Nat->Prop}:fX o xs ((i,sv) :: ps) K=kR o sv fun y o1 kr=>jK (xs.nth i) fun u=>jD (y.size=u.size) (jD (y.isV=true) (fX o1 (xs.setN i y) ps fun xs' o2 kr'=>K xs' o2 (kr ++ kr'))):=by
 apply propext
 have e:fX o xs ((i,sv) :: ps) K=kR o sv fun y o1 kr=>∃ u,xs.nth i=some u/\y.size=u.size/\y.isV=true/\fX o1 (xs.setN i y) ps fun xs' o2 kr'=>K xs' o2 (kr ++ kr'):=rfl
 rw [e]; exact Iff.rfl
theorem aIz {es bytes:Nat} {ys:D} {kr:List Nat} {K:SV->List Ob->List Nat->Option Nat->Prop}:o8 es bytes o .nil ys kr K=jD (ys.len * bytes<=140737488355328/\ys.len<=9223372036854775807) (K (.own o.length) (o ++ [.val (.sl true es ys)]) kr none):=propext Iff.rfl
theorem aHA {es bytes r:Nat} {ys:D} {kr:List Nat} {K:SV->List Ob->List Nat->Option Nat->Prop}:o8 es bytes o (.own r) ys kr K=jK (aCv o r es) fun xs=>jD ((xs.len + ys.len) * bytes<=140737488355328/\xs.len + ys.len<=9223372036854775807) (K (.own r) ((unT r o).set r (.val (.sl true es (xs.app ys)))) kr (some r)):=by
 apply propext
 simp only [o8,jK,jD]
 constructor
 ·rintro ⟨xs,h1,h2,h3⟩; exact ⟨xs,j7.2 h1,h2,h3⟩
 ·rintro ⟨xs,h1,h2,h3⟩; exact ⟨xs,j7.1 h1,h2,h3⟩
theorem aNI {es es' bytes:Nat} {x:SV} {ow:Bool} {ys:D} {K:SV->List Ob->List Nat->Option Nat->Prop}:aB3 es bytes o x (.d (.sl ow es' ys)) K=jD (es'=es) (o8 es bytes o x ys [] K):=propext Iff.rfl
theorem aJe {es bytes:Nat} {x:SV} {K:SV->List Ob->List Nat->Option Nat->Prop}:aB3 es bytes o x .nil K=o8 es bytes o x .nil [] K:=propext Iff.rfl
def aDA (es bytes:Nat) (o:List Ob) (x:SV) (q:Nat) (ys:D) (b:Bool) (K:SV->List Ob->List Nat->Option Nat->Prop):Prop:=if b then o8 es bytes o x ys [] K else o8 es bytes (o.set q .dead) x ys [q] K
theorem aHE {es bytes q:Nat} {x:SV} {K:SV->List Ob->List Nat->Option Nat->Prop}:aB3 es bytes o x (.own q) K=jK (aCv o q es) fun ys=>jD (x≠.own q) (aDA es bytes o x q ys ys.noOwn K):=by
 apply propext
 simp only [aB3,jK,jD]
 constructor
 ·rintro ⟨xs,h1,h2,h3⟩; exact ⟨xs,j7.2 h1,h2,h3⟩
 ·rintro ⟨xs,h1,h2,h3⟩; exact ⟨xs,j7.1 h1,h2,h3⟩
@[congr] theorem aMd {es bytes q : Nat} {x : SV} {ys ys' : D} {b b' : Bool} {K : SV -> List Ob -> List Nat -> Option Nat -> Prop} (h1 : ys = ys') (h3 : b = b') : aDA es bytes o x q ys b K = aDA es bytes o x q ys' b' K := by rw [h1, h3]
theorem aK2 {es bytes q:Nat} {x:SV} {ys:D} {K:SV->List Ob->List Nat->Option Nat->Prop}:aDA es bytes o x q ys true K=o8 es bytes o x ys [] K:=propext Iff.rfl
theorem aLQ {es bytes q:Nat} {x:SV} {ys:D} {K:SV->List Ob->List Nat->Option Nat->Prop}:aDA es bytes o x q ys false K=o8 es bytes (o.set q .dead) x ys [q] K:=propext Iff.rfl
theorem aPm {e:gI} {t:Nat} {r:List ResultVar} {K:List D->Prop}:fO e o (.tmp t :: r) K=kR o (look e t) fun x o1 _=>fO e o1 r fun xs=>K (x :: xs):=propext Iff.rfl
theorem aKc {e:gI} {K:List D->Prop}:fO e o [] K=K []:=propext Iff.rfl
def tM (o:List Ob) (sv:SV) (K:D->List Ob->Prop):Prop:=match sv with
 | .ptr q 0 []=>jK (aCM o q) fun xs=>K (.st xs) (o.set q .dead)
 | _=>False
theorem aPs {e:gI} {t ty:Nat} {r:List ResultVar} {K:List D->Prop}:fO e o (.cell t ty :: r) K=tM o (look e t) fun x o1=>fO e o1 r fun ys=>K (x :: ys):=by
 apply propext
 have e1:fO e o (.cell t ty :: r) K=match look e t with
  | .ptr q 0 []=>∃ xs,o[q]?=some (.box (.st xs))/\fO e (o.set q .dead) r fun ys=>K (.st xs :: ys)
  | _=>False:=rfl
 rw [e1]
 unfold tM
 split
 ·simp only [jK,o9]
 ·exact Iff.rfl
theorem aHl {q:Nat} {K:D->List Ob->Prop}:tM o (.ptr q 0 []) K=jK (aCM o q) fun xs=>K (.st xs) (o.set q .dead):=propext Iff.rfl
def aD6 (P:Program) (rvs:List ResultVar) (R:List D->Prop) (s:St):Prop:=jD (eE P s.e s.o rvs) (fO s.e s.o rvs R)
@[congr] theorem aMn {P : Program} {rvs : List ResultVar} {R : List D -> Prop} {s' : St} (h : s = s') : aD6 P rvs R s = aD6 P rvs R s' := by rw [h]
theorem aN7 {P:Program} {rvs:List ResultVar} {R:List D->Prop}:aH2 P rvs R .normal s=aD6 P rvs R s:=propext Iff.rfl
theorem aOL {P:Program} {rvs:List ResultVar} {R:List D->Prop}:aH2 P rvs R .ret s=aD6 P rvs R s:=propext Iff.rfl
theorem aLj {P:Program} {rvs:List ResultVar} {R:List D->Prop}:aD6 P rvs R s=jD (eE P s.e s.o rvs) (fO s.e s.o rvs R):=propext Iff.rfl
theorem aNr {e:gI} {t:Nat} {r:List ResultVar} {K:List D->List Ob->Prop}:eD e o (.tmp t :: r) K=kR o (look e t) fun x o1 _=>eD e o1 r fun xs o2=>K (x :: xs) o2:=propext Iff.rfl
theorem aH8 {e:gI} {K:List D->List Ob->Prop}:eD e o [] K=K [] o:=propext Iff.rfl
theorem aNF {e:gI} {t ty:Nat} {r:List ResultVar} {K:List D->List Ob->Prop}:eD e o (.cell t ty :: r) K=tM o (look e t) fun x o1=>eD e o1 r fun ys o2=>K (x :: ys) o2:=by
 apply propext
 have e1:eD e o (.cell t ty :: r) K=match look e t with
  | .ptr q 0 []=>∃ xs,o[q]?=some (.box (.st xs))/\eD e (o.set q .dead) r fun ys o2=>K (.st xs :: ys) o2
  | _=>False:=rfl
 rw [e1]
 unfold tM
 split
 ·simp only [jK,o9]
 ·exact Iff.rfl
def aDW (bx:Bool) (o:List Ob) (K:D->Prop):Prop:=∃ x',o[0]?=some (fN bx x')/\K x'
theorem aMT {K:D->Prop}:aDW false o K=jK (oV o 0) K:=by
 apply propext
 simp only [aDW,jK,fN]
 exact ⟨fun ⟨x,h,k⟩=>⟨x,fV.2 h,k⟩,fun ⟨x,h,k⟩=>⟨x,fV.1 h,k⟩⟩
theorem aMH {K:D->Prop}:aDW true o K=jK (oR o 0) K:=by
 apply propext
 simp only [aDW,jK,fN]
 exact ⟨fun ⟨x,h,k⟩=>⟨x,iL.2 h,k⟩,fun ⟨x,h,k⟩=>⟨x,iL.1 h,k⟩⟩
@[congr] theorem aMU {bx : Bool} {o' : List Ob} {K : D -> Prop} (h : o = o') : aDW bx o K = aDW bx o' K := by rw [h]
@[congr] theorem aJl {e e' : gI} {o' : List Ob} {rs : List ResultVar} {K : List D -> List Ob -> Prop} (he : e = e') (h : o = o') : eD e o rs K = eD e' o' rs K := by rw [h, he]
def y3 (P:Program) (rvs:List ResultVar) (bx:Bool) (R:D->List D->Prop) (s:St):Prop:=jD (eE P s.e s.o rvs) (jD (look s.e 0=fI bx 0) (eD s.e s.o rvs fun rs o2=>aDW bx o2 fun x'=>R x' rs))
@[congr] theorem aKp {P : Program} {rvs : List ResultVar} {bx : Bool} {R : D -> List D -> Prop} {s' : St} (h : s = s') : y3 P rvs bx R s = y3 P rvs bx R s' := by rw [h]
theorem aNb {P:Program} {rvs:List ResultVar} {bx:Bool} {R:D->List D->Prop}:w6 P rvs bx R .normal s=y3 P rvs bx R s:=propext Iff.rfl
theorem aMP {P:Program} {rvs:List ResultVar} {bx:Bool} {R:D->List D->Prop}:w6 P rvs bx R .ret s=y3 P rvs bx R s:=propext Iff.rfl
theorem aHC {P:Program} {rvs:List ResultVar} {bx:Bool} {R:D->List D->Prop}:y3 P rvs bx R s=jD (eE P s.e s.o rvs) (jD (look s.e 0=fI bx 0) (eD s.e s.o rvs fun rs o2=>aDW bx o2 fun x'=>R x' rs)):=propext Iff.rfl
end
end Go.Pe
namespace Go.Pe
open Go Go.RowKit
@[congr] theorem aMk {o o' : List Ob} {s s' : SV} {K : D -> List Ob -> List Nat -> Prop} (ho : o = o') (hs : s = s') : kR o s K = kR o' s' K := by rw [ho, hs]
@[congr] theorem aKj {o o' : List Ob} {x x' : SV} {y y' : D} {K : List Ob -> Nat -> Prop} (ho : o = o') (hx : x = x') (hy : y = y') : pQ o x y K = pQ o' x' y' K := by rw [ho, hx, hy]
@[congr] theorem aHf {o o' : List Ob} {xs xs' : D} {ps ps' : List (Nat × SV)} {K : D -> List Ob -> List Nat -> Prop} (ho : o = o') (hxs : xs = xs') (hps : ps = ps') : fX o xs ps K = fX o' xs' ps' K := by rw [ho, hxs, hps]
@[congr] theorem aMA {es : Nat} {bytes : Nat} {o o' : List Ob} {x x' : SV} {y y' : SV} {K : SV -> List Ob -> List Nat -> Option Nat -> Prop} (ho : o = o') (hx : x = x') (hy : y = y') : aB3 es bytes o x y K = aB3 es bytes o' x' y' K := by rw [ho, hx, hy]
@[congr] theorem aNd {es : Nat} {bytes : Nat} {o o' : List Ob} {x x' : SV} {ys ys' : D} {kr kr' : List Nat} {K : SV -> List Ob -> List Nat -> Option Nat -> Prop} (ho : o = o') (hx : x = x') (hys : ys = ys') (hkr : kr = kr') : o8 es bytes o x ys kr K = o8 es bytes o' x' ys' kr' K := by rw [ho, hx, hys, hkr]
@[congr] theorem aJQ {e e' : gI} {o o' : List Ob} {rs : List ResultVar} {K : List D -> Prop} (he : e = e') (ho : o = o') : fO e o rs K = fO e' o' rs K := by rw [he, ho]
@[congr] theorem aKm {o o' : List Ob} {x x' : SV} {K : D -> List Ob -> Prop} (ho : o = o') (hx : x = x') : tM o x K = tM o' x' K := by rw [ho, hx]
@[congr] theorem aLV {o o' : List Ob} {agg : Option Nat} {x x' : SV} {K : SV -> Prop} (ho : o = o') (hx : x = x') : j5 o agg x K = j5 o' agg x' K := by rw [ho, hx]
@[congr] theorem aL1 {o o' : List Ob} {agg : Option Nat} {y y' : D} {K : SV -> Prop} (ho : o = o') (hy : y = y') : dY o agg y K = dY o' agg y' K := by rw [ho, hy]
@[congr] theorem aLE {o o' : List Ob} {es : Nat} {x x' : SV} {i i' : SV} {K : SV -> Prop} (ho : o = o') (hx : x = x') (hi : i = i') : oL o es x i K = oL o' es x' i' K := by rw [ho, hx, hi]
@[congr] theorem aK8 {x x' : SV} {i i' : SV} {K : SV -> Prop} (hx : x = x') (hi : i = i') : qK x i K = qK x' i' K := by rw [hx, hi]
@[congr] theorem aJD {o o' : List Ob} {b : Bool} {x x' : SV} {K : SV -> Prop} (ho : o = o') (hx : x = x') : jW o b x K = jW o' b x' K := by rw [ho, hx]
@[congr] theorem aKP {f : Nat} {off : Nat} {x x' : SV} {K : SV -> Prop} (hx : x = x') : bY f off x K = bY f off x' K := by rw [hx]
@[congr] theorem aJG {x x' : SV} {i : Nat} {K : SV -> Prop} (hx : x = x') : pI x i K = pI x' i K := by rw [hx]
@[congr] theorem aJv {k : IntKind} {x x' : SV} {K : SV -> Prop} (hx : x = x') : mY k x K = mY k x' K := by rw [hx]
@[congr] theorem aJB {x x' : SV} {lo lo' : Option SV} {hi hi' : Option SV} {K : SV -> Prop} (hx : x = x') (hlo : lo = lo') (hhi : hi = hi') : lW x lo hi K = lW x' lo' hi' K := by rw [hx, hlo, hhi]
@[congr] theorem aLB {b : Bool} {x x' : SV} {y y' : SV} {K : SV -> Prop} (hx : x = x') (hy : y = y') : tT b x y K = tT b x' y' K := by rw [hx, hy]
@[congr] theorem aJF {op : BinOp} {x x' : SV} {y y' : SV} {K : SV -> Prop} (hx : x = x') (hy : y = y') : jR op x y K = jR op x' y' K := by rw [hx, hy]
@[congr] theorem aJ1 {op : BinOp} {x x' : SV} {y y' : SV} {K : SV -> Prop} (hx : x = x') (hy : y = y') : qQ op x y K = qQ op x' y' K := by rw [hx, hy]
@[congr] theorem aLg {op : BinOp} {x x' : SV} {y y' : SV} {K : SV -> Prop} (hx : x = x') (hy : y = y') : rK op x y K = rK op x' y' K := by rw [hx, hy]
@[congr] theorem aLm {op : UnOp} {x x' : SV} {K : SV -> Prop} (hx : x = x') : qY op x K = qY op x' K := by rw [hx]
@[congr] theorem aMa {x x' : SV} {K : SV -> Prop} (hx : x = x') : xB x K = xB x' K := by rw [hx]
@[congr] theorem aMc {P : PG} {o o' : List Ob} {E : Nat -> SV} {mo : MO} {K : SV -> Prop} (ho : o = o') : dJ P o E mo K = dJ P o' E mo K := by rw [ho]
@[congr] theorem aMf {P : PG} {s s' : St} {mo : MO} {K : SV -> St -> Prop} (hs : s = s') : eJ P s mo K = eJ P s' mo K := by rw [hs]
@[congr] theorem aMi {P : PG} {s s' : St} {eff : Bool} {mo : MO} {K : SV -> St -> Prop} (hs : s = s') : mB P s eff mo K = mB P s' eff mo K := by rw [hs]
@[congr] theorem aNl {s s' : St} {es : Nat} {bytes : Nat} {z : D} {n n' : SV} {K : SV -> St -> Prop} (hs : s = s') (hn : n = n') : aL8 s es bytes z n K = aL8 s' es bytes z n' K := by rw [hs, hn]
end Go.Pe
namespace Go.Pe
open Go Go.RowKit
def aM6 (P:Program) (ty:TypeId) (o:List Ob):SV->Prop
 | .ptr q 0 []=>match aCM o q with
  | some xs=>dE P ty=some xs.size
  | none=>True
 | _=>True
theorem aIm {P:Program} {ty q:Nat} {o:List Ob}:aM6 P ty o (.ptr q 0 [])=(match aCM o q with
  | some xs=>dE P ty=some xs.size
  | none=>True):=propext Iff.rfl
theorem aMF {P:Program} {e:gI} {o:List Ob}:eE P e o []=True:=propext Iff.rfl
theorem aRg {P:Program} {e:gI} {o:List Ob} {t:Nat} {r:List ResultVar}:eE P e o (.tmp t :: r)=eE P e o r:=propext Iff.rfl
theorem aRZ {P:Program} {e:gI} {o:List Ob} {t ty:Nat} {r:List ResultVar}:eE P e o (.cell t ty :: r)=(aM6 P ty o (look e t)/\eE P e o r):=by
 apply propext
 refine and_congr ?_ Iff.rfl
 constructor
 ·intro h
  unfold aM6
  split
  ·rename_i q hq
   split
   ·rename_i xs hx; exact h q xs hq (o9.1 hx)
   ·trivial
  ·trivial
 ·intro h q xs hq hx
  rw [hq] at h
  rw [aIm,o9.2 hx] at h
  exact h
end Go.Pe
namespace Go.Pe
open Go Go.RowKit Go.WideShapes Go.ChangeShapes
inductive Sh where
 | int (k:IntKind)
 | bool
 | str
 | sl (es:Nat) (e:Sh)
 | st (xs:Sh)
 | nil
 | cons (x xs:Sh)
def Sh.size:Sh->Nat
 | .st xs=>xs.size
 | .nil=>0
 | .cons x xs=>x.size + xs.size
 | _=>1
def Sh.ok (P:Program):Sh->TypeId ⊕ (List Field×Nat)->Bool
 | .int k,.inl t=>match P.underlying t with
  | some (.int k')=>k' == k
  | _=>false
 | .bool,.inl t=>match P.underlying t with
  | some .bool=>true
  | _=>false
 | .str,.inl t=>match P.underlying t with
  | some .string=>true
  | _=>false
 | .sl es e,.inl t=>match P.underlying t with
  | some (.slice u)=>P.cellsOf u == es && e.size == es && e.ok P (.inl u)
  | _=>false
 | .st xs,.inl t=>match P.underlying t with
  | some (.struct fs)=>P.cellsOf t == xs.size && xs.ok P (.inr (fs.toList,0))
  | _=>false
 | .nil,.inr ([],_)=>true
 | .cons x xs,.inr (f :: fs,off)=>f.offset == off && P.cellsOf f.type == x.size && x.ok P (.inl f.type) && xs.ok P (.inr (fs,off + x.size))
 | _,_=>false
def kD:Sh->D->Prop
 | .int k,x=>∃ n,x=.int k n/\(Lit.int k n).wf=true
 | .bool,x=>∃ b,x=.bool b
 | .str,x=>∃ s,x=.str s/\s.length<=maxLen
 | .sl es e,x=>∃ xs:List D,x=.sl false es (iM xs)/\xs.length<=maxLen/\∀ y∈xs,kD e y
 | .st fs,x=>∃ xs,x=.st xs/\kD fs xs
 | .nil,x=>x=.nil
 | .cons f fs,x=>∃ y ys,x=.cons y ys/\kD f y/\kD fs ys
theorem kD.size:∀ (sh:Sh) (x:D),kD sh x->x.size=sh.size
 | .int _,x,h=>by obtain ⟨n,rfl,_⟩:=h; rfl
 | .bool,x,h=>by obtain ⟨n,rfl⟩:=h; rfl
 | .str,x,h=>by obtain ⟨n,rfl,_⟩:=h; rfl
 | .sl _ _,x,h=>by obtain ⟨n,rfl,_⟩:=h; rfl
 | .st fs,x,h=>by obtain ⟨xs,rfl,h⟩:=h; exact kD.size fs xs h
 | .nil,x,h=>by rw [h]; rfl
 | .cons f fs,x,h=>by
  obtain ⟨y,ys,rfl,h1,h2⟩:=h
  show y.size + ys.size=f.size + fs.size
  rw [kD.size f y h1,kD.size fs ys h2]
section
variable {H : Type} {enc : TypeId × Value -> H} {P : Program} {w : World} {base : Nat} {spare : Nat -> Bool} {held : Bool}
theorem aIM {a:Addr} {es:Nat} {e:Sh}:∀ (k:Nat) (_:∀ i,i < k->∃ cs x,(∀ j u,cs[j]?=some u->w.cell? ((a.add (i * es)).add j)=some u)/\cs.length=es/\D.rep w (fun _=>False) x cs []/\kD e x),
  ∃ xs ds,xs.length=k/\ds.length=k * es/\(iM xs).rep w (fun _=>False) ds []/\(∀ y∈xs,kD e y)/\∀ j u,ds[j]?=some u->w.cell? (a.add j)=some u
 | 0,_=>⟨[],[],rfl,by simp,⟨rfl,rfl⟩,by simp,by simp⟩
 | k + 1,h=>by
  obtain ⟨xs,ds,h1,h2,h3,h4,h5⟩:=aIM k fun i hi=>h i (by omega)
  obtain ⟨cs,x,g1,g2,g3,g4⟩:=h k (by omega)
  refine ⟨xs ++ [x],ds ++ cs,by simp [h1],by simp [h2,g2,Nat.succ_mul],?_,?_,?_⟩
  ·exact (d9 xs [x] (ds ++ cs) []).2 ⟨ds,cs,[],[],rfl,rfl,h3,cs,[],[],[],by simp,rfl,g3,rfl,rfl⟩
  ·intro y hy
   rcases List.mem_append.1 hy with hy|hy
   ·exact h4 y hy
   ·rw [List.mem_singleton.1 hy]; exact g4
  ·intro j u hu
   by_cases hj:j < ds.length
   ·rw [List.getElem?_append_left hj] at hu; exact h5 j u hu
   ·rw [List.getElem?_append_right (by omega)] at hu
    have:=g1 _ u hu
    rw [aFv,h2,show k * es + (j - k * es)=j by omega] at this
    exact this
theorem x5:∀ (sh:Sh) (q:TypeId ⊕ (List Field×Nat)),sh.ok P q=true->match q with
  | .inl t=>∀ (fuel:Nat) (cs:List Value) (x:DataW H×List MemPlace),DataW.trod enc P w base spare held fuel t cs=some x->∃ d,d.rep w (fun _=>False) cs []/\kD sh d
  | .inr (fs,off)=>∀ (n:Nat) (cs:List Value),cs.length=off + sh.size->(∀ f∈fs,∃ y,DataW.trod enc P w base spare held n f.type ((cs.drop f.offset).take (P.cellsOf f.type))=some y) ->
    ∃ d,d.rep w (fun _=>False) (cs.drop off) []/\kD sh d
 | .int k,.inl t,hok=>by
  intro fuel cs x h
  unfold Sh.ok at hok
  split at hok
  ·rename_i k' ht
   have:k'=k:=by simpa using hok
   subst this
   obtain ⟨n,rfl,_,hw⟩:=DataW.trod_int ht h
   exact ⟨.int k' n,⟨rfl,rfl⟩,n,rfl,hw⟩
  ·cases hok
 | .bool,.inl t,hok=>by
  intro fuel cs x h
  unfold Sh.ok at hok
  split at hok
  ·rename_i ht
   obtain ⟨n,rfl,_⟩:=DataW.trod_bool ht h
   exact ⟨.bool n,⟨rfl,rfl⟩,n,rfl⟩
  ·cases hok
 | .str,.inl t,hok=>by
  intro fuel cs x h
  unfold Sh.ok at hok
  split at hok
  ·rename_i ht
   obtain ⟨s,rfl,_,hs⟩:=DataW.trod_string ht h
   exact ⟨.str s.data.toList,⟨rfl,rfl⟩,_,rfl,by simpa using hs⟩
  ·cases hok
 | .sl es e,.inl t,hok=>by
  intro fuel cs x h
  unfold Sh.ok at hok
  split at hok
  ·rename_i u ht
   simp only [Bool.and_eq_true,beq_iff_eq] at hok
   obtain ⟨⟨hu,hes⟩,hoke⟩:=hok
   rcases Go.Deep.open_slice ht h with ⟨rfl,_⟩|⟨a,len,cap,m,n,D',Pl,rfl,hb,hl,hm,hmm,_,hx⟩
   ·exact ⟨.sl false es .nil,⟨trivial,none,0,[],[],rfl,Nat.le_refl _,⟨rfl,rfl⟩,rfl,rfl,.inl rfl⟩,[],rfl,Nat.zero_le _,by simp⟩
   ·have hlm:len<=m:=by rw [hmm]; split<;>omega
    have hel:∀ i,i < len->∃ cs x,(∀ j u,cs[j]?=some u->w.cell? ((a.add (i * es)).add j)=some u)/\cs.length=es/\Go.Pe.D.rep w (fun _=>False) x cs []/\kD e x:=by
     intro i hi
     obtain ⟨cs',h1,h2⟩:=hx i (by omega)
     rw [hu] at h1
     obtain ⟨_,g2,g3⟩:=World.cells?_some h1
     obtain ⟨d,hd,hty⟩:=x5 e (.inl u) hoke _ _ _ h2
     refine ⟨cs',d,fun j v hv=>?_,g2,hd,hty⟩
     rw [g3 j (by rw [<- g2]; exact bC hv)]; exact hv
    obtain ⟨xs,ds,h1,h2,h3,h4,h5⟩:=aIM len hel
    have hlen:(iM xs).len=len:=by rw [dH,h1]
    refine ⟨.sl false es (iM xs),⟨(iC xs).2 fun y hy=>(kD.size e y (h4 y hy)).trans hes,some a,cap,ds,[],by rw [hlen],by rw [hlen]; exact hl,h3,rfl,rfl,.inr ⟨a,rfl,?_⟩⟩,xs,rfl,by rw [h1]; omega,h4⟩
    cases hds:ds with
    | nil=>exact .inl rfl
    | cons v vs =>
     have h0:=h5 0 v (by rw [hds]; rfl)
     have hlt:=Go.Lib.lt_of_cell h0
     rw [mV] at hlt
     exact .inr ⟨hlt,fun h=>h,by rw [<- hds]; exact h5⟩
  ·cases hok
 | .st xs,.inl t,hok=>by
  intro fuel cs x h
  unfold Sh.ok at hok
  split at hok
  ·rename_i fs ht
   simp only [Bool.and_eq_true,beq_iff_eq] at hok
   obtain ⟨hc,hok⟩:=hok
   obtain ⟨ys,n,_,_,hlen,hy,hf⟩:=DataW.trod_struct ht h
   obtain ⟨d,hd,hty⟩:=x5 xs (.inr (fs.toList,0)) hok n cs (by rw [hlen,hc,Nat.zero_add]) (by
    intro f hf'
    obtain ⟨i,hi,he⟩:=List.getElem_of_mem hf'
    have hi2:i < ys.length:=by rw [hy]; simpa using hi
    exact ⟨ys[i],by rw [hf i f (by rw [<- he]; simp),List.getElem?_eq_getElem hi2]⟩)
   exact ⟨.st d,(show d.rep w _ cs [] from by simpa using hd),d,rfl,hty⟩
  ·cases hok
 | .nil,.inr ([],off),hok=>by
  intro n cs hlen _
  exact ⟨.nil,⟨by simp [Sh.size] at hlen; simp [hlen],rfl⟩,rfl⟩
 | .cons x xs,.inr (f :: fs,off),hok=>by
  intro n cs hlen hf
  unfold Sh.ok at hok
  simp only [Bool.and_eq_true,beq_iff_eq] at hok
  obtain ⟨⟨⟨ho,hc⟩,hx⟩,hxs⟩:=hok
  obtain ⟨y,hy⟩:=hf f (by simp)
  obtain ⟨d,hd,hty⟩:=x5 x (.inl f.type) hx _ _ _ hy
  obtain ⟨ds,hds,htys⟩:=x5 xs (.inr (fs,off + x.size)) hxs n cs (by rw [hlen]; simp only [Sh.size]; omega) (fun g hg=>hf g (by simp [hg]))
  rw [ho,hc] at hd
  refine ⟨.cons d ds,⟨(cs.drop off).take x.size,cs.drop (off + x.size),[],[],?_,rfl,hd,hds⟩,d,ds,rfl,hty,htys⟩
  rw [<- List.drop_drop,List.take_append_drop]
 | .int _,.inr _,hok=>by simp [Sh.ok] at hok
 | .bool,.inr _,hok=>by simp [Sh.ok] at hok
 | .str,.inr _,hok=>by simp [Sh.ok] at hok
 | .sl _ _,.inr _,hok=>by simp [Sh.ok] at hok
 | .st _,.inr _,hok=>by simp [Sh.ok] at hok
 | .nil,.inl _,hok=>by simp [Sh.ok] at hok
 | .nil,.inr (_ :: _,_),hok=>by simp [Sh.ok] at hok
 | .cons _ _,.inl _,hok=>by simp [Sh.ok] at hok
 | .cons _ _,.inr ([],_),hok=>by simp [Sh.ok] at hok
theorem aKH {r:Reach} {b0:Nat} {t:TypeId} {v:Value} {d:DataW H} {ps:List MemPlace} (sh:Sh) (hok:sh.ok P (.inl t)=true) (hval:Value.okWide P w r b0 t v)
  (hd:DataW.Trod enc P w base spare held t v d ps):∃ x cs,x.rep w (fun _=>False) cs []/\v=fD x cs/\kD sh x:=by
 obtain ⟨fuel,hf⟩:=hd
 obtain ⟨x,hx,hty⟩:=x5 sh (.inl t) hok fuel _ _ hf
 refine ⟨x,_,hx,?_,hty⟩
 cases sh with
 | int k =>
  unfold Sh.ok at hok
  split at hok
  ·rename_i k' ht
   obtain ⟨n,rfl⟩:=okWide_int ht hval
   obtain ⟨m,rfl,_⟩:=hty
   rfl
  ·cases hok
 | bool =>
  unfold Sh.ok at hok
  split at hok
  ·rename_i ht
   obtain ⟨n,rfl⟩:=okWide_bool ht hval
   obtain ⟨m,rfl⟩:=hty
   rfl
  ·cases hok
 | str =>
  unfold Sh.ok at hok
  split at hok
  ·rename_i ht
   obtain ⟨n,rfl⟩:=okWide_string ht hval
   obtain ⟨m,rfl,_⟩:=hty
   rfl
  ·cases hok
 | sl es e =>
  unfold Sh.ok at hok
  split at hok
  ·rename_i u ht
   obtain ⟨a,l,c,rfl⟩:=okWide_slice ht hval
   obtain ⟨m,rfl,_⟩:=hty
   rfl
  ·cases hok
 | st xs =>
  unfold Sh.ok at hok
  split at hok
  ·rename_i fs ht
   obtain ⟨cs,rfl,_⟩:=okWide_struct ht hval
   obtain ⟨m,rfl,_⟩:=hty
   simp [fD,Value.cells]
  ·cases hok
 | nil=>simp [Sh.ok] at hok
 | cons _ _=>simp [Sh.ok] at hok
end
end Go.Pe
namespace Go.Pe
open Go Go.RowKit
theorem aE2 {w:World} {x:D} {xs:List D} {cs:List Value} {us:List Value} (h:x.rep w (fun _=>False) cs []) (hs:dI w (fun _=>False) xs us []):dI w (fun _=>False) (x :: xs) (fD x cs :: us) [] :=
 ⟨cs,us,[],[],rfl,rfl,h,hs⟩
theorem aG1 {w:World}:dI w (fun _=>False) [] [] []:=⟨rfl,rfl⟩
theorem Fn.walk {P:PG} {f:FuncId} {ds:List D} {vs:List Value} {w:World} (h:Fn P f ds (fun rs=>rs=[.bool true])) (hF:P.F w) (hv:dI w (fun _=>False) ds vs []) :
  Calls P.P f vs.toArray w fun e w'=>e=.returned (.bool true)/\Below w.heap.size w w':=by
 refine (h (fun _=>False) vs w (fun b hb=>hb.elim) ⟨w,hF,Nat.le_refl _,fun _ _=>⟨fun h=>h,rfl⟩⟩ hv).mono fun e w' ⟨rs,us,fp,he,hr,hrep,_,_,hx⟩=>?_
 subst hr
 obtain ⟨cs,us',f1,f2,rfl,_,⟨rfl,_⟩,rfl,_⟩:=hrep
 exact ⟨he,hx⟩
end Go.Pe
namespace Go.Pe
open Go Go.RowKit
def dl {α:Type} (f:α->D) (xs:List α):D:=iM (xs.map f)
section
variable {α : Type} {f : α -> D}
theorem a7 (xs:List α):(dl f xs).len=xs.length:=by simp [dl,dH]
theorem bW (xs:List α) (i:Nat):(dl f xs).nth i=(xs[i]?).map f:=by simp [dl,nQ]
theorem tX (xs ys:List α):(dl f xs).app (dl f ys)=dl f (xs ++ ys):=by simp [dl,aBV]
theorem u6 (h:∀ a,(f a).unown=f a) (xs:List α):(dl f xs).unown=dl f xs:=by
 have e:D.unown ∘ f=f:=funext h
 simp [dl,aA5,e]
theorem rC (h:∀ a,(f a).noOwn=true):∀ xs:List α,(dl f xs).noOwn=true
 | []=>rfl
 | x :: xs=>by
  show ((f x).noOwn && (dl f xs).noOwn)=true
  rw [h,rC h xs]; rfl
theorem wE (h:∀ a,(f a).allOwn=true):∀ xs:List α,(dl f xs).allOwn=true
 | []=>rfl
 | x :: xs=>by
  show ((f x).allOwn && (dl f xs).allOwn)=true
  rw [h,wE h xs]; rfl
theorem i8:∀ (xs:List α) (i:Nat) (a:α),(dl f xs).setN i (f a)=dl f (xs.set i a)
 | [],i,a=>by cases i<;>rfl
 | x :: xs,0,a=>rfl
 | x :: xs,i + 1,a=>by
  show D.cons (f x) ((dl f xs).setN i (f a))=D.cons (f x) (dl f (xs.set i a))
  rw [i8 xs i a]
theorem aB6 (n:Nat) (a:α):iM (List.replicate n (f a))=dl f (List.replicate n a):=by simp [dl]
theorem cK {xs:List α} {i:Nat} (h:i < xs.length):∃ a,xs[i]?=some a:=⟨xs[i],List.getElem?_eq_getElem h⟩
theorem aF0 {xs:List α} {i:Nat} {a z:α} (h:xs[i]?=some a):(xs.take i ++ List.replicate (xs.length - i) z).set i a=xs.take (i + 1) ++ List.replicate (xs.length - (i + 1)) z:=by
 have hi:=bC h
 rw [List.set_append_right _ _ (by simp; omega),List.length_take,Nat.min_eq_left (by omega),Nat.sub_self,show xs.length - i=(xs.length - (i + 1)) + 1 by omega,List.replicate_succ,List.set_cons_zero,
  List.take_add_one,h]
 simp
theorem aAf {e:Sh} {P:α->Prop} (h:∀ x,kD e x->∃ a,x=f a/\P a):∀ xs:List D,(∀ y∈xs,kD e y)->∃ ys:List α,iM xs=dl f ys/\ys.length=xs.length/\∀ a∈ys,P a
 | [],_=>⟨[],rfl,rfl,by simp⟩
 | x :: xs,hx=>by
  obtain ⟨a,rfl,ha⟩:=h x (hx x (by simp))
  obtain ⟨ys,h1,h2,h3⟩:=aAf h xs fun y hy=>hx y (by simp [hy])
  refine ⟨a :: ys,?_,by simp [h2],?_⟩
  ·show D.cons (f a) (iM xs)=D.cons (f a) (dl f ys)
   rw [h1]
  ·intro b hb
   rcases List.mem_cons.1 hb with hb|hb
   ·rw [hb]; exact ha
   ·exact h3 b hb
end
theorem aKg {k:IntKind} {n:Int}:(D.int k n).isV=true:=rfl
theorem aIB {b:Bool}:(D.bool b).isV=true:=rfl
theorem aKW {b:List UInt8}:(D.str b).isV=true:=rfl
theorem aLd {b:Bool}:(D.err b).isV=true:=rfl
theorem aNB {o:Bool} {es:Nat} {xs:D}:(D.sl o es xs).isV=true:=rfl
theorem aNj {xs:D}:(D.st xs).isV=true:=rfl
theorem aKB {x:D}:(D.ptr x).isV=true:=rfl
theorem aLW {g:Nat} {x:D}:(D.clo g x).isV=true:=rfl
def iD (n:Int):D:=.int .i64 n
end Go.Pe
namespace Go.Pe
open Go Go.RowKit
theorem mX {o:List Ob} {K:D->List Ob->List Nat->Prop} (es:Nat) (h:K (.sl true es .nil) o []):kR o .nil K:=⟨es,h⟩
theorem iG {α:Type} {f:α->D} (xs:List α) (a:α):(dl f xs).app (D.cons (f a) .nil)=dl f (xs ++ [a]):=tX xs [a]
theorem eS (xs:List Int) (n:Int):(dl iD xs).app (D.cons (.int .i64 n) .nil)=dl iD (xs ++ [n]):=tX xs [n]
theorem aJh (n:Int):(iD n).unown=iD n:=rfl
theorem aJn (n:Int):(iD n).noOwn=true:=rfl
theorem aA8 (n:Int):(iD n).allOwn=true:=rfl
end Go.Pe
set_option linter.all false
namespace Go.Pe
open Go Go.RowKit
def iY:Ob->Option Nat->List Nat->Option D
 | .box z,none,p=>iS p z
 | .val (.sl true _ xs),some i,p=>(xs.nth i).bind (iS p)
 | .val (.st xs),none,f :: p=>iS (f :: p) (.st xs)
 | _,_,_=>none
def cX:Ob->Option Nat->List Nat->D->Ob
 | .box z,none,p,y=>.box (j6 p z y)
 | .val (.sl true es xs),some i,p,y=>.val (.sl true es (xs.setN i (j6 p ((xs.nth i).getD .nil) y)))
 | .val (.st xs),none,f :: p,y=>.val (j6 (f :: p) (.st xs) y)
 | ob,_,_,_=>ob
theorem v6 (ob:Ob) (i:Option Nat) (p:List Nat) (y u:D) (h:iY ob i p=some u) (r:Nat) (v:Value):cX ob i p y≠.tag r v:=by
 unfold iY at h
 split at h
 ·intro h2; cases h2
 ·intro h2; cases h2
 ·intro h2; cases h2
 ·cases h
theorem rP {α:Type} (cs ds:List α) (k n:Nat) (h:(cs.drop k).take n=ds):cs.take k ++ ds ++ cs.drop (k + n)=cs:=by
 subst h
 rw [List.append_assoc,show cs.drop (k + n)=(cs.drop k).drop n by rw [List.drop_drop],List.take_append_drop,List.take_append_drop]
theorem tW {w:World} {M:Nat->Prop} {ob:Ob} {i:Option Nat} {p:List Nat} {u:D} {oc:OC} (h:e8 w M ob oc) (hp:iY ob i p=some u) :
  ∃ f1 f0 f2 ds,oc.fp=f1 ++ f0 ++ f2/\u.rep w M ds f0/\∀ (M':Nat->Prop) (y:D) (fy:List Nat),(∀ b,b < w.heap.size->M' b->M b)->y.rep w M' ds fy->e8 w M' (cX ob i p y) { oc with fp:=f1 ++ fy ++ f2 }:=by
 unfold iY at hp
 split at hp
 ·rename_i z
  obtain ⟨cs,fps,h1,h2,h3⟩:=h
  obtain ⟨f1,f0,f2,hf,hr,hle,hset⟩:=oS p z cs fps u h2 hp
  refine ⟨oc.blk :: f1,f0,f2,_,by rw [h3,hf]; simp,hr,fun M' y fy hM hy=>?_⟩
  have hs:y.size=u.size:=(b7 _ _ _ hy).symm.trans (b7 _ _ _ hr)
  have:=hset w M' y _ fy ⟨Nat.le_refl _,hM,fun _ _ _=>rfl⟩ hy hs
  rw [rP _ _ _ _ rfl] at this
  exact ⟨cs,_,h1,this,by simp⟩
 ·rename_i es xs i
  obtain ⟨cs,h1,h2⟩:=h
  obtain ⟨hL,a,c',ds,fps,e1,e2,h3,h4⟩:=h1
  cases hz:xs.nth i with
  | none=>rw [hz] at hp; cases hp
  | some z =>
   rw [hz] at hp
   have hp:iS p z=some u:=hp
   obtain ⟨g1,g0,g2,hg,hr1,hl1,hset1⟩:=u7 xs ds fps i z h3 hz
   obtain ⟨f1,f0,f2,hf,hr,hle,hset⟩:=oS p z _ g0 u hr1 hp
   simp only [if_true] at h4
   have hne:xs.len≠0:=by have:=aFY xs i z hz; omega
   rcases h4 with ⟨hc,_,_⟩|⟨g,ha,hrow,hfp⟩
   ·omega
   ·refine ⟨g :: (g1 ++ f1),f0,f2 ++ g2,_,by rw [hfp,hg,hf]; simp,hr,fun M' y fy hM hy=>?_⟩
    have hs:y.size=u.size:=(b7 _ _ _ hy).symm.trans (b7 _ _ _ hr)
    have k1:=hset w M' y _ fy ⟨Nat.le_refl _,hM,fun _ _ _=>rfl⟩ hy hs
    rw [rP _ _ _ _ rfl] at k1
    have k2:=hset1 w M' _ _ _ ⟨Nat.le_refl _,hM,fun _ _ _=>rfl⟩ k1 (pB p z u y hp hs)
    rw [rP _ _ _ _ rfl] at k2
    have hzs:z.size=es:=(t8 xs i z hL hz).2.1
    have hzg:(xs.nth i).getD .nil=z:=by rw [hz]; rfl
    simp only [cX,hzg]
    refine ⟨cs,⟨yG xs i _ hL (by rw [pB p z u y hp hs]; exact hzs),a,c',ds,_,by rw [e1,oY],by rw [oY]; exact e2,by simpa [hz] using k2,?_⟩,h2⟩
    simp only [if_true]
    exact .inr ⟨g,ha,hrow,by simp⟩
 ·rename_i zs f p
  obtain ⟨cs,h1,h2⟩:=h
  obtain ⟨f1,f0,f2,hf,hr,hle,hset⟩:=oS (f :: p) (.st zs) cs oc.fp u h1 hp
  refine ⟨f1,f0,f2,_,hf,hr,fun M' y fy hM hy=>?_⟩
  have hs:y.size=u.size:=(b7 _ _ _ hy).symm.trans (b7 _ _ _ hr)
  have:=hset w M' y _ fy ⟨Nat.le_refl _,hM,fun _ _ _=>rfl⟩ hy hs
  rw [rP _ _ _ _ rfl] at this
  refine ⟨cs,this,?_⟩
  show oc.v=_
  rw [h2]
  unfold j6
  split<;>rfl
 ·cases hp
def mH:List Nat->gI->gI
 | [],e=>e
 | r :: rs,e=>mH rs (kW (eK r) e)
theorem nS:∀ (ks:List Nat) (e:gI) (t:Nat),look (mH ks e) t=if ks.any (fun r=>eK r (look e t)) then .any else look e t
 | [],e,t=>by simp [mH]
 | r :: rs,e,t=>by
  simp only [mH]
  rw [nS rs,iW (eK r) rfl]
  by_cases h:eK r (look e t)=true
  ·simp only [h,if_true,List.any_cons,Bool.true_or]
   split<;>rfl
  ·simp [h]
theorem Rel.regroup {c:Ctx} {s:St} {C:List OC} {a:Act} {w:World} (h:Rel c s C a w) (ks:List Nat) {o':List Ob} {C':List OC} (hlen:o'.length=C'.length)
  (hsame:∀ (r:Nat) (oc:OC),C[r]?=some oc->∃ oc',C'[r]?=some oc'/\oc'.v=oc.v/\oc'.blk=oc.blk/\(r ∉ ks->oc'=oc))
  (hob:∀ (r:Nat) (ob:Ob) (oc:OC),o'[r]?=some ob->C'[r]?=some oc->(s.o[r]?=some ob/\C[r]?=some oc)\/e8 w (Ms c C') ob oc)
  (hnd:(dN C').Nodup) (hsub:∀ b∈dN C',b∈dN C)
  (htag:∀ (q r:Nat) (v:Value),o'[q]?=some (.tag r v)->s.o[q]?=some (.tag r v)\/∃ oc,C'[r]?=some oc/\oc.v=v):Rel c ⟨mH ks s.e,o'⟩ C' a w:=by
 have hg:Went w w (fun _=>False):=Went.of_ext (kP.refl w) _
 have hX:∀ b,(fun _=>False:Nat->Prop) b->b∈dN C:=fun b hb=>hb.elim
 have hmem:∀ b∈dN C',(b∈dN C\/w.heap.size<=b)/\b < w.heap.size:=fun b hb=>⟨.inl (hsub b hb),h.wd.lt b (hsub b hb)⟩
 have hval:∀ (r:Nat) (oc:OC),C[r]?=some oc->∃ oc',C'[r]?=some oc'/\oc'.v=oc.v:=fun r oc h1=>by
  obtain ⟨oc',h2,h3,_⟩:=hsame r oc h1
  exact ⟨oc',h2,h3⟩
 refine ⟨h.tmps,h.defers,eP.upd (f:=fun s=>ks.any fun r=>eK r s) hg hX hmem ?_ ?_ (nS ks s.e) h.env,h.wd.upd hg hX hlen ?_ hnd hmem htag (fun q r v oc _ h1=>hval r oc h1),h.fix⟩
 ·intro s r oc _ _ h1
  obtain ⟨oc',h2,h3,h4,_⟩:=hsame r oc h1
  exact ⟨oc',h2,h3,h4⟩
 ·intro s r oc oc' hf hr h1 h2 h3
  obtain ⟨oc2,h4,_,_,h5⟩:=hsame r oc h1
  have hk:r ∉ ks:=fun hk=>by
   have:=List.any_eq_false.1 hf r hk
   exact this hr
  rw [h4] at h3
  injection h3 with h3
  subst h3
  rw [h5 hk]
  exact ⟨h2,fun h=>h⟩
 ·intro r ob oc h1 h2
  rcases hob r ob oc h1 h2 with ⟨h3,h4⟩|h3
  ·exact .inl ⟨h3,h4,fun _ _ h=>h⟩
  ·exact .inr h3
theorem aBC {α:Type} {f1 f0 f2:List α} (h:(f1 ++ f0 ++ f2).Nodup):(f1 ++ f2).Nodup/\f0.Nodup/\∀ b∈f0,b ∉ f1 ++ f2:=by
 rw [List.append_assoc,List.nodup_append] at h
 obtain ⟨h1,h2,h3⟩:=h
 rw [List.nodup_append] at h2
 obtain ⟨h4,h5,h6⟩:=h2
 refine ⟨List.nodup_append.2 ⟨h1,h5,fun a ha b hb=>h3 a ha b (by simp [hb])⟩,h4,fun b hb hm=>?_⟩
 rcases List.mem_append.1 hm with hm|hm
 ·exact h3 b hm b (by simp [hb]) rfl
 ·exact h6 b hb b hm rfl
section
variable {c : Ctx} {s : St} {C : List OC} {a : Act} {w : World}
theorem aFw {s:St} (ow:Bool) (r:Nat) {ob:Ob} (i:Option Nat) (p:List Nat) {es:Nat} {xs:D} (h1:s.o[r]?=some ob) (hp:iY ob i p=some (.sl ow es xs)) :
  iT s (fun v:Value=>⟨mH [r] s.e,s.o.set r (cX ob i p (.lnk (s.o.length + 1) v)) ++ [.val (.sl ow es xs),.tag s.o.length v]⟩):=by
 intro c C a w h
 have hr:=bC h1
 have hlen:=h.wd.len
 obtain ⟨oc,h2⟩:∃ oc,C[r]?=some oc:=⟨C[r]'(by omega),List.getElem?_eq_getElem _⟩
 have hrC:=bC h2
 obtain ⟨f1,f0,f2,ds,hf,hrep,hset⟩:=tW (h.wd.obs r ob oc h1 h2) hp
 have hnC:=cD.1 h.wd.nodup
 have hocn:=hnC.1 r oc h2
 rw [hf] at hocn
 obtain ⟨n1,n2,n3⟩:=aBC hocn
 have hrep0:=hrep
 obtain ⟨_,av,cv,_,_,hds,_⟩:=hrep
 obtain ⟨v,rfl⟩:∃ v,ds=[v]:=⟨_,hds⟩
 have hone:=mN _ _ _ hrep0 v (by simp)
 let C':List OC:=C.set r { oc with fp:=f1 ++ [] ++ f2 } ++ [{ v:=v,blk:=0,fp:=f0 },{ v:=Go.undef,blk:=0,fp:=[] }]
 have hcase:∀ (j:Nat) (od:OC),C'[j]?=some od->(j=r/\od={ oc with fp:=f1 ++ [] ++ f2 })\/(j≠r/\j < C.length/\C[j]?=some od)\/(j=C.length/\od={ v:=v,blk:=0,fp:=f0 })\/(j=C.length + 1/\od={ v:=Go.undef,blk:=0,fp:=[] }):=by
  intro j od hj
  rcases eG hrC hj with ⟨e1,e2⟩|⟨e1,e2,e3⟩|⟨e1,e2⟩
  ·exact .inl ⟨e1,e2⟩
  ·exact .inr (.inl ⟨e1,e2,e3⟩)
  ·match hk:j - C.length,e2 with
   | 0,e2=>simp at e2; exact .inr (.inr (.inl ⟨by omega,e2.symm⟩))
   | 1,e2=>simp at e2; exact .inr (.inr (.inr ⟨by omega,e2.symm⟩))
   | k + 2,e2=>simp at e2
 have hin:∀ b∈f1 ++ f0 ++ f2,b∈oc.fp:=fun b hb=>by rw [hf]; exact hb
 have hsub:∀ b∈dN C',b∈dN C:=by
  intro b hb
  obtain ⟨j,od,hj,hb⟩:=bP.1 hb
  rcases hcase j od hj with ⟨_,rfl⟩|⟨_,_,hj⟩|⟨_,rfl⟩|⟨_,rfl⟩
  ·exact bP.2 ⟨r,oc,h2,hin b (by simp at hb ⊢; rcases hb with hb|hb<;>simp [hb])⟩
  ·exact bP.2 ⟨j,od,hj,hb⟩
  ·exact bP.2 ⟨r,oc,h2,hin b (by simp at hb ⊢; simp [hb])⟩
  ·cases hb
 have hM:∀ b,b < w.heap.size->Ms c C' b->Ms c C b:=fun b _ hb=>hb.imp id (hsub b)
 refine ⟨v,C',h.regroup [r] (by simp [C',hlen]) ?_ ?_ ?_ hsub ?_⟩
 ·intro j od hj
  have hjl:=bC hj
  by_cases e:j=r
  ·subst e
   rw [h2] at hj
   injection hj with hj
   subst hj
   exact ⟨{ oc with fp:=f1 ++ [] ++ f2 },by rw [List.getElem?_append_left (by simpa using hrC),List.getElem?_set]; simp [hrC],rfl,rfl,fun hk=>absurd (by simp) hk⟩
  ·exact ⟨od,by rw [List.getElem?_append_left (by simpa using hjl),List.getElem?_set,if_neg (fun h=>e h.symm)]; exact hj,rfl,rfl,fun _=>rfl⟩
 ·intro j oj odj hj1 hj2
  rcases hcase j odj hj2 with ⟨e,rfl⟩|⟨e,el,hj⟩|⟨e,rfl⟩|⟨e,rfl⟩
  ·subst e
   rw [List.getElem?_append_left (by simpa using hr),List.getElem?_set] at hj1
   simp [hr] at hj1
   subst hj1
   exact .inr (hset (Ms c C') _ [] hM ⟨rfl,hone,rfl⟩)
  ·rw [List.getElem?_append_left (by simp; omega),List.getElem?_set,if_neg (fun h=>e h.symm)] at hj1
   exact .inl ⟨hj1,hj⟩
  ·subst e
   rw [<- hlen,List.getElem?_append_right (by simp)] at hj1
   simp at hj1
   subst hj1
   exact .inr ⟨[v],cU (Nat.le_refl _) hM _ _ _ (fun _ _ _=>rfl) hrep0,rfl⟩
  ·subst e
   rw [<- hlen,List.getElem?_append_right (by simp)] at hj1
   simp at hj1
   subst hj1
   exact .inr rfl
 ·refine cD.2 ⟨fun j od hj=>?_,fun j k od oe hne hj hk b hb hb'=>?_⟩
  ·rcases hcase j od hj with ⟨_,rfl⟩|⟨_,_,hj⟩|⟨_,rfl⟩|⟨_,rfl⟩
   ·simpa using n1
   ·exact hnC.1 j od hj
   ·exact n2
   ·exact List.nodup_nil
  ·have other:∀ (k:Nat) (oe:OC),k≠r->C[k]?=some oe->∀ b∈f1 ++ f0 ++ f2,b ∉ oe.fp:=fun k oe hne hk b hb hb'=>hnC.2 r k oc oe (fun h=>hne h.symm) h2 hk b (hin b hb) hb'
   rcases hcase j od hj with ⟨ej,rfl⟩|⟨ej,_,hj⟩|⟨ej,rfl⟩|⟨ej,rfl⟩<;>rcases hcase k oe hk with ⟨ek,rfl⟩|⟨ek,_,hk⟩|⟨ek,rfl⟩|⟨ek,rfl⟩
   all_goals first
    | omega
    |(cases hb; done)
    |(cases hb'; done)
    | exact hnC.2 j k od oe hne hj hk b hb hb'
    | exact other k oe ek hk b (by simp at hb ⊢; first|exact .inr (.inl hb)|(rcases hb with hb|hb<;>simp [hb])) hb'
    | exact other j od ej hj b (by simp at hb' ⊢; first|exact .inr (.inl hb')|(rcases hb' with hb'|hb'<;>simp [hb'])) hb
    | exact n3 b hb (by simpa using hb')
    | exact n3 b hb' (by simpa using hb)
 ·intro q t u hq
  by_cases hql:q < s.o.length
  ·rw [List.getElem?_append_left (by simpa using hql),List.getElem?_set] at hq
   by_cases e:r=q
   ·rw [if_pos e,if_pos hr] at hq
    injection hq with hq
    exact absurd hq (v6 ob i p _ _ hp t u)
   ·rw [if_neg e] at hq; exact .inl hq
  ·rw [List.getElem?_append_right (by simp; omega)] at hq
   match hk:q - s.o.length,hq with
   | 0,hq=>simp [hk] at hq
   | 1,hq =>
    simp [hk] at hq
    obtain ⟨rfl,rfl⟩:=hq
    exact .inr ⟨{ v:=v,blk:=0,fp:=f0 },by rw [hlen,List.getElem?_append_right (by simp)]; simp,rfl⟩
   | k + 2,hq=>simp [hk] at hq
theorem eA {s:St} (r:Nat) {ob:Ob} (i:Option Nat) (p:List Nat) {es:Nat} {xs:D} (h1:s.o[r]?=some ob) (hp:iY ob i p=some (.sl true es xs)) :
  iT s (fun v:Value=>⟨mH [r] s.e,s.o.set r (cX ob i p (.lnk (s.o.length + 1) v)) ++ [.val (.sl true es xs),.tag s.o.length v]⟩):=aFw true r i p h1 hp
theorem jQ {s:St} (r q n:Nat) {v:Value} {ob ob':Ob} (i:Option Nat) (p:List Nat) {ow:Bool} {es:Nat} {xs:D} (h1:s.o[r]?=some ob) (hp:iY ob i p=some (.lnk q v)) (hq:s.o[q]?=some (.tag n v))
  (hn:s.o[n]?=some (.val (.sl ow es xs))) (hne:r≠n) (hob:cX ob i p (.sl ow es xs)=ob') :
  eN s ⟨mH [r,n] s.e,(s.o.set r ob').set n .dead⟩:=by
 subst hob
 intro c C a w h
 have hr:=bC h1
 have hnl:=bC hn
 have hlen:=h.wd.len
 obtain ⟨oc,h2⟩:∃ oc,C[r]?=some oc:=⟨C[r]'(by omega),List.getElem?_eq_getElem _⟩
 obtain ⟨on,h3⟩:∃ on,C[n]?=some on:=⟨C[n]'(by omega),List.getElem?_eq_getElem _⟩
 have hrC:=bC h2
 have hnCl:=bC h3
 obtain ⟨f1,f0,f2,ds,hf,hrep,hset⟩:=tW (h.wd.obs r ob oc h1 h2) hp
 obtain ⟨rfl,_,rfl⟩:=hrep
 obtain ⟨on',h4,hv⟩:=h.wd.tags q n v hq
 rw [h3] at h4
 injection h4 with h4
 subst h4
 obtain ⟨cs,h5,h6⟩:=h.wd.obs n _ on hn h3
 have hcs:cs=[v]:=by
  have h7:=h5
  obtain ⟨_,_,_,_,_,e,_⟩:=h7
  rw [e] at h6 ⊢
  simp only [fD,List.headD_cons] at h6
  rw [<- hv,h6]
 subst hcs
 have hnC:=cD.1 h.wd.nodup
 have hocn:=hnC.1 r oc h2
 rw [hf] at hocn
 simp only [List.append_nil] at hocn
 have hnn:=hnC.1 n on h3
 have hdis:∀ b∈oc.fp,b ∉ on.fp:=fun b hb hb'=>hnC.2 r n oc on hne h2 h3 b hb hb'
 let C':List OC:=(C.set r { oc with fp:=f1 ++ on.fp ++ f2 }).set n { on with fp:=[] }
 have hcase:∀ (j:Nat) (od:OC),C'[j]?=some od->(j=n/\od={ on with fp:=[] })\/(j=r/\od={ oc with fp:=f1 ++ on.fp ++ f2 })\/(j≠r/\j≠n/\C[j]?=some od):=by
  intro j od hj
  rw [List.getElem?_set] at hj
  by_cases e:n=j
  ·rw [if_pos e,if_pos (by simpa using hnCl)] at hj
   injection hj with hj; exact .inl ⟨e.symm,hj.symm⟩
  ·rw [if_neg e,List.getElem?_set] at hj
   by_cases e2:r=j
   ·rw [if_pos e2,if_pos hrC] at hj
    injection hj with hj; exact .inr (.inl ⟨e2.symm,hj.symm⟩)
   ·rw [if_neg e2] at hj; exact .inr (.inr ⟨fun h=>e2 h.symm,fun h=>e h.symm,hj⟩)
 have hin:∀ b∈f1 ++ f2,b∈oc.fp:=fun b hb=>by rw [hf]; simpa using hb
 have hsub:∀ b∈dN C',b∈dN C:=by
  intro b hb
  obtain ⟨j,od,hj,hb⟩:=bP.1 hb
  rcases hcase j od hj with ⟨_,rfl⟩|⟨_,rfl⟩|⟨_,_,hj⟩
  ·cases hb
  ·simp only [List.mem_append] at hb
   rcases hb with (hb|hb)|hb
   ·exact bP.2 ⟨r,oc,h2,hin b (by simp [hb])⟩
   ·exact bP.2 ⟨n,on,h3,hb⟩
   ·exact bP.2 ⟨r,oc,h2,hin b (by simp [hb])⟩
  ·exact bP.2 ⟨j,od,hj,hb⟩
 have hM:∀ b,b < w.heap.size->Ms c C' b->Ms c C b:=fun b _ hb=>hb.imp id (hsub b)
 refine ⟨C',h.regroup [r,n] (by simp [C',hlen]) ?_ ?_ ?_ hsub ?_⟩
 ·intro j od hj
  have hjl:=bC hj
  by_cases e:n=j
  ·subst e
   rw [h3] at hj; injection hj with hj; subst hj
   exact ⟨{ on with fp:=[] },by rw [List.getElem?_set]; simp [hnCl],rfl,rfl,fun hk=>absurd (by simp) hk⟩
  ·by_cases e2:r=j
   ·subst e2
    rw [h2] at hj; injection hj with hj; subst hj
    exact ⟨{ oc with fp:=f1 ++ on.fp ++ f2 },by rw [List.getElem?_set,if_neg e,List.getElem?_set]; simp [hrC],rfl,rfl,fun hk=>absurd (by simp) hk⟩
   ·exact ⟨od,by rw [List.getElem?_set,if_neg e,List.getElem?_set,if_neg e2]; exact hj,rfl,rfl,fun _=>rfl⟩
 ·intro j oj odj hj1 hj2
  rcases hcase j odj hj2 with ⟨e,rfl⟩|⟨e,rfl⟩|⟨e1,e2,hj⟩
  ·subst e
   rw [List.getElem?_set] at hj1
   simp [hnl] at hj1
   subst hj1
   exact .inr rfl
  ·subst e
   rw [List.getElem?_set,if_neg (fun h=>hne h.symm),List.getElem?_set] at hj1
   simp [hr] at hj1
   subst hj1
   exact .inr (hset (Ms c C') _ on.fp hM (cU (Nat.le_refl _) hM _ _ _ (fun _ _ _=>rfl) h5))
  ·rw [List.getElem?_set,if_neg (fun h=>e2 h.symm),List.getElem?_set,if_neg (fun h=>e1 h.symm)] at hj1
   exact .inl ⟨hj1,hj⟩
 ·have hnew:(f1 ++ on.fp ++ f2).Nodup:=by
   obtain ⟨m1,m2,m3⟩:=List.nodup_append.1 hocn
   rw [List.append_assoc]
   refine List.nodup_append.2 ⟨m1,List.nodup_append.2 ⟨hnn,m2,fun x hx y hy e=>?_⟩,fun x hx y hy e=>?_⟩
   ·subst e; exact hdis x (hin x (by simp [hy])) hx
   ·subst e
    rcases List.mem_append.1 hy with hy|hy
    ·exact hdis x (hin x (by simp [hx])) hy
    ·exact m3 x hx x hy rfl
  refine cD.2 ⟨fun j od hj=>?_,fun j k od oe hne' hj hk b hb hb'=>?_⟩
  ·rcases hcase j od hj with ⟨_,rfl⟩|⟨_,rfl⟩|⟨_,_,hj⟩
   ·exact List.nodup_nil
   ·exact hnew
   ·exact hnC.1 j od hj
  ·have other:∀ (k:Nat) (oe:OC),k≠r->k≠n->C[k]?=some oe->∀ b∈f1 ++ on.fp ++ f2,b ∉ oe.fp:=by
    intro k oe e1 e2 hk b hb hb'
    simp only [List.mem_append] at hb
    rcases hb with (hb|hb)|hb
    ·exact hnC.2 r k oc oe (fun h=>e1 h.symm) h2 hk b (hin b (by simp [hb])) hb'
    ·exact hnC.2 n k on oe (fun h=>e2 h.symm) h3 hk b hb hb'
    ·exact hnC.2 r k oc oe (fun h=>e1 h.symm) h2 hk b (hin b (by simp [hb])) hb'
   rcases hcase j od hj with ⟨ej,rfl⟩|⟨ej,rfl⟩|⟨ej,ej',hj⟩<;>rcases hcase k oe hk with ⟨ek,rfl⟩|⟨ek,rfl⟩|⟨ek,ek',hk⟩
   all_goals first
    | omega
    |(cases hb; done)
    |(cases hb'; done)
    | exact hnC.2 j k od oe hne' hj hk b hb hb'
    | exact other k oe ek ek' hk b hb hb'
    | exact other j od ej ej' hj b hb' hb
 ·intro q' t u hq'
  rw [List.getElem?_set] at hq'
  by_cases e:n=q'
  ·rw [if_pos e,if_pos (by simpa using hnl)] at hq'
   cases hq'
  ·rw [if_neg e,List.getElem?_set] at hq'
   by_cases e2:r=q'
   ·rw [if_pos e2,if_pos hr] at hq'
    injection hq' with hq'; exact absurd hq' (v6 ob i p _ _ hp t u)
   ·rw [if_neg e2] at hq'; exact .inl hq'
theorem freeze {s:St} (r:Nat) {ob ob':Ob} (i:Option Nat) (p:List Nat) {x:D} (h1:s.o[r]?=some ob) (hp:iY ob i p=some x) (hob:cX ob i p x.unown=ob') :
  eN s ⟨mH [r] s.e,s.o.set r ob'⟩:=by
 subst hob
 intro c C a w h
 have hr:=bC h1
 have hlen:=h.wd.len
 obtain ⟨oc,h2⟩:∃ oc,C[r]?=some oc:=⟨C[r]'(by omega),List.getElem?_eq_getElem _⟩
 have hrC:=bC h2
 obtain ⟨f1,f0,f2,ds,hf,hrep,hset⟩:=tW (h.wd.obs r ob oc h1 h2) hp
 have hnC:=cD.1 h.wd.nodup
 have hocn:=hnC.1 r oc h2
 rw [hf] at hocn
 obtain ⟨n1,n2,n3⟩:=aBC hocn
 have hin:∀ b∈f1 ++ f0 ++ f2,b∈oc.fp:=fun b hb=>by rw [hf]; exact hb
 let C':List OC:=C.set r { oc with fp:=f1 ++ [] ++ f2 }
 have hcase:∀ (j:Nat) (od:OC),C'[j]?=some od->(j=r/\od={ oc with fp:=f1 ++ [] ++ f2 })\/(j≠r/\C[j]?=some od):=by
  intro j od hj
  rw [List.getElem?_set] at hj
  by_cases e2:r=j
  ·rw [if_pos e2,if_pos hrC] at hj
   injection hj with hj; exact .inl ⟨e2.symm,hj.symm⟩
  ·rw [if_neg e2] at hj; exact .inr ⟨fun h=>e2 h.symm,hj⟩
 have hsub:∀ b∈dN C',b∈dN C/\b ∉ f0:=by
  intro b hb
  obtain ⟨j,od,hj,hb⟩:=bP.1 hb
  rcases hcase j od hj with ⟨_,rfl⟩|⟨e,hj⟩
  ·simp at hb
   exact ⟨bP.2 ⟨r,oc,h2,hin b (by simp; rcases hb with hb|hb<;>simp [hb])⟩,fun h=>n3 b h (by simpa using hb)⟩
  ·exact ⟨bP.2 ⟨j,od,hj,hb⟩,fun h=>hnC.2 r j oc od (fun h=>e h.symm) h2 hj b (hin b (by simp [h])) hb⟩
 have hM:∀ b,b < w.heap.size->Ms c C' b->Ms c C b:=fun b _ hb=>hb.imp id fun h=>(hsub b h).1
 refine ⟨C',h.regroup [r] (by simp [C',hlen]) ?_ ?_ ?_ (fun b hb=>(hsub b hb).1) ?_⟩
 ·intro j od hj
  by_cases e2:r=j
  ·subst e2
   rw [h2] at hj; injection hj with hj; subst hj
   exact ⟨{ oc with fp:=f1 ++ [] ++ f2 },by rw [List.getElem?_set]; simp [hrC],rfl,rfl,fun hk=>absurd (by simp) hk⟩
  ·exact ⟨od,by rw [List.getElem?_set,if_neg e2]; exact hj,rfl,rfl,fun _=>rfl⟩
 ·intro j oj odj hj1 hj2
  rcases hcase j odj hj2 with ⟨e,rfl⟩|⟨e1,hj⟩
  ·subst e
   rw [List.getElem?_set] at hj1
   simp [hr] at hj1
   subst hj1
   refine .inr (hset (Ms c C') _ [] hM (fY _ _ _ (fun b hb=>?_) (fun b hb hm=>?_) hrep))
   ·exact hb.imp id fun h=>(hsub b h).1
   ·rcases hm with hm|hm
    ·exact h.wd.apart b (bP.2 ⟨j,oc,h2,hin b (by simp [hb])⟩) hm
    ·exact (hsub b hm).2 hb
  ·rw [List.getElem?_set,if_neg (fun h=>e1 h.symm)] at hj1
   exact .inl ⟨hj1,hj⟩
 ·refine cD.2 ⟨fun j od hj=>?_,fun j k od oe hne hj hk b hb hb'=>?_⟩
  ·rcases hcase j od hj with ⟨_,rfl⟩|⟨_,hj⟩
   ·simpa using n1
   ·exact hnC.1 j od hj
  ·rcases hcase j od hj with ⟨ej,rfl⟩|⟨ej,hj⟩<;>rcases hcase k oe hk with ⟨ek,rfl⟩|⟨ek,hk⟩
   ·omega
   ·exact hnC.2 r k oc oe (fun h=>ek h.symm) h2 hk b (hin b (by simp at hb ⊢; rcases hb with hb|hb<;>simp [hb])) hb'
   ·exact hnC.2 r j oc od (fun h=>ej h.symm) h2 hj b (hin b (by simp at hb' ⊢; rcases hb' with hb'|hb'<;>simp [hb'])) hb
   ·exact hnC.2 j k od oe hne hj hk b hb hb'
 ·intro q' t u hq'
  rw [List.getElem?_set] at hq'
  by_cases e2:r=q'
  ·rw [if_pos e2,if_pos hr] at hq'
   injection hq' with hq'; exact absurd hq' (v6 ob i p _ _ hp t u)
  ·rw [if_neg e2] at hq'; exact .inl hq'
end
end Go.Pe
set_option linter.all false
namespace Go.Pe
open Go Go.RowKit
section
variable {P : PG} {s : St} {o : List Ob} {E : Nat -> SV} {K : SV -> Prop} {KK : SV -> St -> Prop} {KN : Nat -> Nat -> Prop}
theorem aF2 {es:Nat} {x:Opd} {lo hi:Option Opd}:dJ P o E (.slx es x lo hi) K=jC o es (gF E x) (qJ E lo) (qJ E hi) K:=propext Iff.rfl
theorem aGi {es:Nat} {x:Opd}:dJ P o E (.sl0 es x) K=lU o es (gF E x) K:=propext Iff.rfl
theorem aGy {x y:Opd}:dJ P o E (.shr x y) K=p8 (gF E x) (gF E y) K:=propext Iff.rfl
theorem aGx {n:Nat} {x:Opd}:dJ P o E (.ldv n x) K=lS o n (gF E x) K:=propext Iff.rfl
@[congr] theorem aJC {o o' : List Ob} {n : Nat} {x x' : SV} (ho : o = o') (hx : x = x') : lS o n x K = lS o' n x' K := by rw [ho, hx]
def onW (b:Bool) (A B:Prop):Prop:=(b=true->A)/\(b=false->B)
@[congr] theorem aNR {b b' : Bool} {A B : Prop} (h : b = b') : onW b A B = onW b' A B := by rw [h]
theorem aH5 {A B:Prop}:onW true A B=A:=propext ⟨fun h=>h.1 rfl,fun h=>⟨fun _=>h,fun h=>(by cases h)⟩⟩
theorem aGG {A B:Prop}:onW false A B=B:=propext ⟨fun h=>h.2 rfl,fun h=>⟨fun h=>(by cases h),fun _=>h⟩⟩
theorem aO2 {n:Nat} {x:D}:lS o n (.d x) K=j5 o (some n) (.d x) K:=propext Iff.rfl
theorem aMS {n r es i off:Nat} {p:List Nat}:lS o n (.el r es i off p) K=j5 o (some n) (.el r es i off p) K:=propext Iff.rfl
theorem aL3 {n r off:Nat} {p:List Nat}:lS o n (.ptr r off p) K=jK (oR o r) fun z=>jD (eV p z=off) (jK (iS p z) fun y=>onW y.noOwn (dY o (some n) y K) (jD (p=[]) (jD (y.size=n) (jD (y.isStB=true) (K (.vw r)))))):=by
 apply propext
 simp only [lS,jK]
 have st:∀ y:D,(∃ ys,y=.st ys)↔y.isStB=true:=by
  intro y
  constructor
  ·rintro ⟨ys,rfl⟩; rfl
  ·intro h; cases y<;>first|exact ⟨_,rfl⟩|cases h
 constructor
 ·rintro ⟨z,hz,ho,y,hy,h1,h2⟩
  exact ⟨z,iL.2 hz,ho,y,hy,h1,fun hn=>⟨(h2 hn).1,(h2 hn).2.1,(st y).1 (h2 hn).2.2.1,(h2 hn).2.2.2⟩⟩
 ·rintro ⟨z,hz,ho,y,hy,h1,h2⟩
  exact ⟨z,iL.1 hz,ho,y,hy,h1,fun hn=>⟨(h2 hn).1,(h2 hn).2.1,(st y).2 (h2 hn).2.2.1,(h2 hn).2.2.2⟩⟩
theorem aGa {m es:Nat} {x i:Opd}:dJ P o E (.iar m es x i) K=nP m es (gF E x) (gF E i) K:=propext Iff.rfl
@[congr] theorem aJI {m es : Nat} {x x' i i' : SV} (hx : x = x') (hi : i = i') : nP m es x i K = nP m es x' i' K := by rw [hx, hi]
theorem aOW {m es:Nat} {xs:D} {k:IntKind} {n:Int}:nP m es (.d (.ptr (.st xs))) (.d (.int k n)) K=jD (0<=n/\n < (m:Int)) (jD (xs.pre n.toNat=n.toNat * es) (jK (xs.nth n.toNat) fun y=>K (.d (.ptr y)))):=propext Iff.rfl
theorem aLF {m es r off:Nat} {p:List Nat} {k:IntKind} {n:Int}:nP m es (.ptr r off p) (.d (.int k n)) K=jD (0<=n/\n < (m:Int)) (K (.ptr r (off + n.toNat * es) (p ++ [n.toNat]))):=propext Iff.rfl
theorem aHw {neg:Bool} {ks:List Nat} {x y:Opd}:dJ P o E (.sq neg ks x y) K=sZ neg ks (gF E x) (gF E y) K:=propext Iff.rfl
@[congr] theorem aJY {neg : Bool} {ks : List Nat} {x x' y y' : SV} (hx : x = x') (hy : y = y') : sZ neg ks x y K = sZ neg ks x' y' K := by rw [hx, hy]
theorem aRq {neg:Bool} {ks:List Nat} {a b:D}:sZ neg ks (.d (.st a)) (.d (.st b)) K=jK (sE ks a b) fun r=>K (.d (.bool (if neg then !r else r))):=propext Iff.rfl
theorem aGP {x:Opd}:dJ P o E (.b2s x) K=pW o (gF E x) K:=propext Iff.rfl
@[congr] theorem aJA {o o' : List Ob} {es : Nat} {x x' : SV} {lo lo' hi hi' : Option SV} (ho : o = o') (hx : x = x') (hl : lo = lo') (hh : hi = hi') : jC o es x lo hi K = jC o' es x' lo' hi' K := by rw [ho, hx, hl, hh]
@[congr] theorem aJP {o o' : List Ob} {es : Nat} {x x' : SV} (ho : o = o') (hx : x = x') : lU o es x K = lU o' es x' K := by rw [ho, hx]
@[congr] theorem aJM {x x' y y' : SV} (hx : x = x') (hy : y = y') : p8 x y K = p8 x' y' K := by rw [hx, hy]
@[congr] theorem aJL {o o' : List Ob} {x x' : SV} (ho : o = o') (hx : x = x') : pW o x K = pW o' x' K := by rw [ho, hx]
@[congr] theorem aLS {lo lo' hi hi' : Option SV} {n n' : Nat} (hl : lo = lo') (hh : hi = hi') (hn : n = n') : jE lo hi n KN = jE lo' hi' n' KN := by rw [hl, hh, hn]
theorem aOC {es es':Nat} {xs:D} {lo hi:Option SV}:jC o es (.d (.sl false es' xs)) lo hi K=jD (es'=es) (jE lo hi xs.len fun a b=>K (.d (.sl false es (xs.sub a b)))):=propext Iff.rfl
theorem aKS {es:Nat} {lo hi:Option SV}:jC o es .nil lo hi K=jE lo hi 0 fun _ _=>K .nil:=propext Iff.rfl
def aC1 (o:List Ob) (r es:Nat):Option (Bool×D):=match oV o r with
 | some (.sl ow es' xs)=>if es'=es then some (ow,xs) else none
 | _=>none
theorem rT {r es:Nat} {ow:Bool} {xs:D}:aC1 o r es=some (ow,xs)↔o[r]?=some (.val (.sl ow es xs)):=by
 unfold aC1
 split
 ·rename_i ow' es' xs' h
  rw [fV] at h
  split
  ·rename_i he
   subst he
   rw [h]
   simp only [Option.some.injEq,Prod.mk.injEq,Ob.val.injEq,D.sl.injEq,true_and]
  ·rename_i he
   rw [h]
   constructor
   ·intro h; cases h
   ·intro h; injection h with h; injection h with h; injection h with _ h2 _; exact absurd h2 he
 ·rename_i h
  constructor
  ·intro h; cases h
  ·intro h2; exact absurd (fV.2 h2) (h _ _ _)
theorem aLi {es r:Nat} {lo hi:Option SV}:jC o es (.own r) lo hi K=jK (aC1 o r es) fun x=>nR r es x.1 x.2 lo hi K:=by
 apply propext
 simp only [jC,jK]
 constructor
 ·rintro ⟨ow,xs,h,hk⟩; exact ⟨(ow,xs),rT.2 h,hk⟩
 ·rintro ⟨⟨ow,xs⟩,h,hk⟩; exact ⟨ow,xs,rT.1 h,hk⟩
def aBe (s:St) (es:Nat) (z:D) (x:SV) (KK:SV->St->Prop):Prop:=match x with
 | .win r es' lo=>es'=es/\∃ xs,s.o[r]?=some (.val (.sl true es xs))/\KK .any ⟨kW (eK r) s.e,s.o.set r (.val (.sl true es (aD9 lo z xs)))⟩
 | _=>False
theorem aO9 {es:Nat} {z:D} {x:Opd}:eJ P s (.clr es z x) KK=aBe s es z (lZ s.e x) KK:=by
 simp only [eJ,aBe]
 all_goals
  generalize lZ s.e x=q
  match q with
  | .d _=>rfl
  | .undef=>rfl
  | .any=>rfl
  | .nil=>rfl
  | .own _=>rfl
  | .ptr _ _ _=>rfl
  | .el _ _ _ _ _=>rfl
  | .vw _=>rfl
  | .win _ _ _=>rfl
  | .tup _=>rfl
@[congr] theorem aMs {s s' : St} {es : Nat} {z : D} {x x' : SV} (hs : s = s') (hx : x = x') : aBe s es z x KK = aBe s' es z x' KK := by rw [hs, hx]
theorem aLL {es es' r lo:Nat} {z:D}:aBe s es z (.win r es' lo) KK=jD (es'=es) (jK (aCv s.o r es) fun xs=>KK .any ⟨kW (eK r) s.e,s.o.set r (.val (.sl true es (aD9 lo z xs)))⟩):=by
 apply propext
 simp only [aBe,jD,jK]
 constructor
 ·rintro ⟨h,xs,h1,hk⟩; exact ⟨h,xs,j7.2 h1,hk⟩
 ·rintro ⟨h,xs,h1,hk⟩; exact ⟨h,xs,j7.1 h1,hk⟩
theorem aOc {es:Nat} {x hi:Opd}:eJ P s (.cut es x hi) KK=mL s es (lZ s.e x) (lZ s.e hi) KK:=propext Iff.rfl
@[congr] theorem aJN {s s' : St} {es : Nat} {x x' hi hi' : SV} (hs : s = s') (hx : x = x') (hh : hi = hi') : mL s es x hi KK = mL s' es x' hi' KK := by rw [hs, hx, hh]
theorem aOH {es:Nat} {y:D} {hi:SV}:mL s es (.d y) hi KK=jC s.o es (.d y) none (some hi) fun sv=>KK sv s:=propext Iff.rfl
theorem aL4 {es:Nat} {hi:SV}:mL s es .nil hi KK=jC s.o es .nil none (some hi) fun sv=>KK sv s:=propext Iff.rfl
theorem aKa {es r:Nat} {hi:SV}:mL s es (.own r) hi KK=jK (aC1 s.o r es) fun x=>nO s r es x.1 x.2 hi KK:=by
 apply propext
 simp only [mL,jK]
 constructor
 ·rintro ⟨ow,xs,h,hk⟩; exact ⟨(ow,xs),rT.2 h,hk⟩
 ·rintro ⟨⟨ow,xs⟩,h,hk⟩; exact ⟨ow,xs,rT.1 h,hk⟩
@[congr] theorem aJy {s s' : St} {r es : Nat} {ow ow' : Bool} {xs xs' : D} {hi hi' : SV} (hs : s = s') (ho : ow = ow') (hx : xs = xs') (hh : hi = hi') : nO s r es ow xs hi KK = nO s' r es ow' xs' hi' KK := by rw [hs, ho, hx, hh]
theorem aN9 {r es:Nat} {xs:D} {hi:SV}:nO s r es false xs hi KK=jE none (some hi) xs.len fun a b=>KK (.d (.sl false es (xs.sub a b))) s:=by unfold nO; rfl
theorem aOa {r es:Nat} {xs:D} {k:IntKind} {b:Int}:nO s r es true xs (.d (.int k b)) KK=jD (0<=b/\b<=xs.len) (onV fun v=>KK (.own s.o.length) ⟨kW (eK r) s.e,s.o.set r (.val (.lnk 0 v)) ++ [.val (.sl true es (xs.takeD b.toNat))]⟩):=propext Iff.rfl
@[congr] theorem aJO {r es : Nat} {ow ow' : Bool} {xs xs' : D} {lo lo' hi hi' : Option SV} (ho : ow = ow') (hx : xs = xs') (hl : lo = lo') (hh : hi = hi') : nR r es ow xs lo hi K = nR r es ow' xs' lo' hi' K := by rw [ho, hx, hl, hh]
theorem aO0 {r es:Nat} {xs:D} {lo hi:Option SV}:nR r es false xs lo hi K=jE lo hi xs.len fun a b=>K (.d (.sl false es (xs.sub a b))):=by
 unfold nR; rfl
theorem aOB {r es:Nat} {xs:D} {k:IntKind} {a:Int}:nR r es true xs (some (.d (.int k a))) none K=jD (0<=a/\a < xs.len) (K (.win r es a.toNat)):=propext Iff.rfl
theorem aMM {n:Nat}:jE none none n KN=KN 0 n:=propext Iff.rfl
theorem aPo {n:Nat} {k:IntKind} {a:Int}:jE (some (.d (.int k a))) none n KN=jD (0<=a/\a<=n) (KN a.toNat n):=propext Iff.rfl
theorem aPk {n:Nat} {k:IntKind} {b:Int}:jE none (some (.d (.int k b))) n KN=jD (0<=b/\b<=n) (KN 0 b.toNat):=propext Iff.rfl
theorem aML {n:Nat} {k k':IntKind} {a b:Int}:jE (some (.d (.int k a))) (some (.d (.int k' b))) n KN=jD (0<=a/\a<=b/\b<=n) (KN a.toNat b.toNat):=propext Iff.rfl
theorem aPE {es es':Nat} {ow:Bool} {xs:D}:lU o es (.d (.sl ow es' xs)) K=K (.d (.sl true es .nil)):=propext Iff.rfl
theorem aL5 {es:Nat}:lU o es .nil K=K .nil:=propext Iff.rfl
theorem aKC {es r:Nat}:lU o es (.own r) K=jK (lenOf o r) fun _=>K (.d (.sl true es .nil)):=by
 apply propext
 simp only [lU,jK,lenOf]
 constructor
 ·rintro ⟨⟨es',xs,ow,h⟩,hk⟩
  exact ⟨xs.len,by rw [fV.2 h],hk⟩
 ·rintro ⟨n,h,hk⟩
  split at h
  ·rename_i ow es' xs h1
   exact ⟨⟨es',xs,ow,fV.1 h1⟩,hk⟩
  ·cases h
theorem aO6 {k k':IntKind} {a n:Int}:p8 (.d (.int k a)) (.d (.int k' n)) K=jD (0<=n) (K (.d (.int k (a.fdiv (2 ^ (min n.toNat k.bits)))))):=propext Iff.rfl
theorem aKA:pW o .nil K=K (.d (.str [])):=propext Iff.rfl
theorem aM4 {s:List UInt8}:lW (.d (.str s)) none none K=K (.d (.str s)):=propext Iff.rfl
theorem aOq {s:List UInt8} {k:IntKind} {a:Int}:lW (.d (.str s)) (some (.d (.int k a))) none K=jD (0<=a/\a<=s.length) (K (.d (.str (s.drop a.toNat)))):=propext and_assoc.symm
theorem aOU {s:List UInt8} {k:IntKind} {b:Int}:lW (.d (.str s)) none (some (.d (.int k b))) K=jD (0<=b/\b<=s.length) (K (.d (.str (s.take b.toNat)))):=propext and_assoc.symm
theorem aNh {s:List UInt8} {k k':IntKind} {a b:Int}:lW (.d (.str s)) (some (.d (.int k a))) (some (.d (.int k' b))) K=jD (0<=a/\a<=b/\b<=s.length) (K (.d (.str ((s.take b.toNat).drop a.toNat)))) :=
 propext ⟨fun ⟨h1,h2,h3,h4⟩=>⟨⟨h1,h2,h3⟩,h4⟩,fun ⟨⟨h1,h2,h3⟩,h4⟩=>⟨h1,h2,h3,h4⟩⟩
def vP (g:FuncId) (xs:Option D) (K:SV->Prop):Prop:=jK xs fun xs=>K (.d (.clo g xs))
theorem aEH {g:FuncId} {caps:List Opd}:dJ P o E (.clos g caps) K=vP g (w7 (evL E caps)) K:=by
 rw [aEW]
 apply propext
 simp only [dJ,vP,jK]
 constructor
 ·intro h
  split at h
  ·rename_i xs hx; exact ⟨xs,hx,h⟩
  ·exact h.elim
 ·rintro ⟨xs,hx,h⟩
  rw [hx]; exact h
@[congr] theorem aJZ {g : FuncId} {xs xs' : Option D} (h : xs = xs') : vP g xs K = vP g xs' K := by rw [h]
theorem aI4 {g:FuncId} {xs:D}:vP g (some xs) K=K (.d (.clo g xs)):=by simp [vP,jK]
def xT (P:PG) (o:List Ob) (f:SV) (as:List SV) (K:SV->Prop):Prop:=match f with
 | .d (.clo g xs)=>(eU P.P g=true/\xs.caps=true)/\∃ ds rs,gB o as ds/\Fn P g (ds ++ xs.list) (fun qs=>qs=rs)/\(as.all xL=true\/rs.all D.allOwn=true)/\K (qH (rs.map D.unown))
 | _=>False
theorem aDP {f:Opd} {args:List Opd}:dJ P o E (.callV f args) K=xT P o (gF E f) (evL E args) K:=by
 rw [aEW]
 simp only [dJ,xT]
 all_goals
  generalize gF E f=q
  match q with
  | .d (.bool _)=>rfl
  | .d (.int _ _)=>rfl
  | .d (.str _)=>rfl
  | .d (.err _)=>rfl
  | .d (.sl _ _ _)=>rfl
  | .d (.st _)=>rfl
  | .d (.ptr _)=>rfl
  | .d (.clo _ _)=>rfl
  | .d (.lnk _ _)=>rfl
  | .d .nil=>rfl
  | .d (.cons _ _)=>rfl
  | .undef=>rfl
  | .any=>rfl
  | .nil=>rfl
  | .own _=>rfl
  | .ptr _ _ _=>rfl
  | .el _ _ _ _ _=>rfl
  | .vw _=>rfl
  | .win _ _ _=>rfl
  | .tup _=>rfl
@[congr] theorem aJR {o o' : List Ob} {f f' : SV} {as as' : List SV} (ho : o = o') (hf : f = f') (h : as = as') : xT P o f as K = xT P o' f' as' K := by rw [ho, hf, h]
def uN (P:PG) (s:St) (f:SV) (as:List SV) (KK:SV->St->Prop):Prop:=match f with
 | .d (.clo g xs)=>(eU P.P g=true/\xs.caps=true)/\∃ ds R,gB s.o as ds/\Fn P g (ds ++ xs.list) R/\∀ rs,R rs->(as.all xL=true\/rs.all D.allOwn=true)/\KK (l6 (cO rs s.o).1) ⟨s.e,(cO rs s.o).2⟩
 | _=>False
theorem aKr {f:Opd} {args:List Opd}:eJ P s (.callW f args) KK=uN P s (lZ s.e f) (i7 s.e args) KK:=by
 simp only [eJ,uN]
 all_goals
  generalize lZ s.e f=q
  match q with
  | .d (.bool _)=>rfl
  | .d (.int _ _)=>rfl
  | .d (.str _)=>rfl
  | .d (.err _)=>rfl
  | .d (.sl _ _ _)=>rfl
  | .d (.st _)=>rfl
  | .d (.ptr _)=>rfl
  | .d (.clo _ _)=>rfl
  | .d (.lnk _ _)=>rfl
  | .d .nil=>rfl
  | .d (.cons _ _)=>rfl
  | .undef=>rfl
  | .any=>rfl
  | .nil=>rfl
  | .own _=>rfl
  | .ptr _ _ _=>rfl
  | .el _ _ _ _ _=>rfl
  | .vw _=>rfl
  | .win _ _ _=>rfl
  | .tup _=>rfl
@[congr] theorem aJJ {s s' : St} {f f' : SV} {as as' : List SV} (hs : s = s') (hf : f = f') (h : as = as') : uN P s f as KK = uN P s' f' as' KK := by rw [hs, hf, h]
theorem r9 {g:FuncId} {xs:D} {as:List SV} {ds rs:List D} (hf:Fn P g (ds ++ xs.list) (fun qs=>qs=rs)) (he:eU P.P g=true) (hc:xs.caps=true) (ha:cA s.o as=some ds) (hd:(as.all xL || rs.all D.allOwn)=true) (hk:KK (l6 (cO rs s.o).1) ⟨s.e,(cO rs s.o).2⟩):uN P s (.d (.clo g xs)) as KK :=
 ⟨⟨he,hc⟩,ds,_,mD ha,hf,fun qs h=>by subst h; exact ⟨by simpa using hd,hk⟩⟩
theorem aHP {es es' bytes:Nat} {ys:D} {kr:List Nat} {K:SV->List Ob->List Nat->Option Nat->Prop}:o8 es bytes o (.d (.sl true es' .nil)) ys kr K=jD (es'=es) (jD (ys.len * bytes<=140737488355328/\ys.len<=9223372036854775807) (K (.own o.length) (o ++ [.val (.sl true es ys)]) kr none)):=propext Iff.rfl
theorem oC {α:Type} {f:α->D} (xs:List α) (a b:Nat):(dl f xs).sub a b=dl f ((xs.take b).drop a):=by
 unfold D.sub dl
 rw [gO,wJ,List.map_drop,List.map_take]
theorem aHe (bs:List UInt8):cQ bs=dl (fun b:UInt8=>D.int .u8 (b.toNat:Int)) bs:=by
 induction bs with
 | nil=>rfl
 | cons b bs ih=>simp only [cQ,ih]; rfl
end
section
def aFc:D->Option Value
 | .int k n=>some (.int k n)
 | .bool b=>some (.bool b)
 | .str s=>some (.string ⟨s.toArray⟩)
 | _=>none
def pP:List D->Option (List Value)
 | []=>some []
 | d :: ds=>match aFc d,pP ds with
  | some v,some vs=>some (v :: vs)
  | _,_=>none
theorem y0 {w:World} {M:Nat->Prop} {d:D} {v:Value} (h:aFc d=some v):(∀ cs fp,d.rep w M cs fp->fD d cs=v/\fp=[])/\d.rep w M [v] []/\fD d [v]=v:=by
 cases d<;>simp only [aFc] at h<;>first
  |(injection h with h; subst h; exact ⟨fun cs fp hr=>⟨by rw [hr.1]; rfl,hr.2⟩,⟨rfl,rfl⟩,rfl⟩)
  | cases h
theorem aAj {w:World} {M:Nat->Prop}:∀ {ds:List D} {vs us:List Value},pP ds=some vs->dI w M ds us []->us=vs
 | [],vs,us,h,hr=>by injection h with h; rw [hr.1,<-h]
 | d :: ds,vs,us,h,hr=>by
  obtain ⟨cs,us',f1,f2,rfl,hf,h1,h2⟩:=hr
  obtain ⟨rfl,rfl⟩:=List.append_eq_nil_iff.1 hf.symm
  unfold pP at h
  split at h
  ·rename_i v vs' hv hvs
   injection h with h
   rw [<- h,((y0 hv).1 cs [] h1).1,aAj hvs h2]
  ·cases h
theorem rD {w:World} {M:Nat->Prop}:∀ {rs:List D} {us:List Value},pP rs=some us->dI w M rs us []
 | [],us,h=>by injection h with h; exact ⟨h.symm,rfl⟩
 | d :: ds,us,h=>by
  unfold pP at h
  split at h
  ·rename_i v vs' hv hvs
   injection h with h
   obtain ⟨_,h2,h3⟩:=y0 (w:=w) (M:=M) hv
   exact ⟨[v],vs',[],[],by rw [<- h,h3],rfl,h2,rD hvs⟩
  ·cases h
theorem aM3 {P:PG} {f:FuncId} {ds rs:List D} {vs us:List Value} (hd:pP ds=some vs) (hr:pP rs=some us) (h:∀ w,P.F w->Calls P.P f vs.toArray w fun e w'=>e=.returned (pS us)/\kP w w'):Fn P f ds (fun qs=>qs=rs):=by
 intro M vs' w hM hg hvs
 rw [aAj hd hvs]
 refine (h w hg.fact).mono ?_
 rintro e w' ⟨rfl,hx⟩
 exact ⟨rs,us,[],rfl,rfl,rD hr,List.nodup_nil,(fun b hb=>by cases hb),hx⟩
theorem kP.drewN {w:World} (n:Nat):kP w (w.drewN n):=⟨rfl,rfl,rfl,Nat.le_refl _,fun _ _=>rfl⟩
end
theorem dI.unown {w:World} {M M':Nat->Prop}:∀ (ds:List D) (vs:List Value) (fp:List Nat),(∀ b,M' b->M b)->(∀ b∈fp,¬ M' b)->dI w M ds vs fp->dI w M' (ds.map D.unown) vs []
 | [],vs,fp,h1,h2,h=>⟨h.1,rfl⟩
 | d :: ds,vs,fp,h1,h2,h=>by
  obtain ⟨cs,us,f1,f2,rfl,rfl,h3,h4⟩:=h
  exact ⟨cs,us,[],[],by rw [lL],rfl,fY d cs f1 h1 (fun b hb=>h2 b (List.mem_append_left _ hb)) h3,dI.unown ds us f2 h1 (fun b hb=>h2 b (List.mem_append_right _ hb)) h4⟩
theorem iV {P:PG} {f:FuncId} {ds rs:List D} (h:Fn P f ds (fun qs=>qs=rs)):Fn P f ds (fun qs=>qs=rs.map D.unown):=by
 intro M vs w hM hG hv
 refine Calls.mono (h M vs w hM hG hv) ?_
 rintro e w' ⟨rs',us,fp,he,rfl,hr,hn,hb,hx⟩
 exact ⟨_,us,[],he,rfl,dI.unown _ _ _ (fun b h=>.inl (h.resolve_right (by simp))) (fun b hb' h=>by
  rcases h with h|h
  ·have:=hM b h; have:=hb b hb'; omega
  ·simp at h) hr,by simp,by simp,hx⟩
def aFV (s:St) (x:SV) (KK:SV->St->Prop):Prop:=match x with
 | .d (.str bs)=>KK (.own s.o.length) ⟨s.e,s.o ++ [.val (.sl true 1 (cQ bs))]⟩
 | _=>False
theorem aPz {P:PG} {s:St} {x:Opd} {KK:SV->St->Prop}:eJ P s (.s2b x) KK=aFV s (lZ s.e x) KK:=propext Iff.rfl
theorem aNX {s:St} {bs:List UInt8} {KK:SV->St->Prop}:aFV s (.d (.str bs)) KK=KK (.own s.o.length) ⟨s.e,s.o ++ [.val (.sl true 1 (cQ bs))]⟩:=propext Iff.rfl
@[congr] theorem aMr {s s' : St} {x x' : SV} {KK : SV -> St -> Prop} (hs : s = s') (hx : x = x') : aFV s x KK = aFV s' x' KK := by rw [hs, hx]
theorem aM7 {P:PG} {s:St} {neg:Bool} {x:Opd} {KK:SV->St->Prop}:eJ P s (.snil neg x) KK=j9 s.o neg (lZ s.e x) fun sv=>KK sv s:=propext Iff.rfl
theorem aHI {o:List Ob} {neg:Bool} {K:SV->Prop}:j9 o neg .nil K=K (.d (.bool (!neg))):=propext Iff.rfl
theorem aNf {o:List Ob} {neg ow:Bool} {es:Nat} {xs:D} {K:SV->Prop}:j9 o neg (.d (.sl ow es xs)) K=aCV neg xs.len K:=propext Iff.rfl
theorem aJx {o:List Ob} {neg:Bool} {r:Nat} {K:SV->Prop}:j9 o neg (.own r) K=jK (lenOf o r) fun n=>aCV neg n K:=by
 apply propext
 simp only [j9,jK,lenOf]
 constructor
 ·rintro ⟨es,xs,ow,h,hk⟩
  exact ⟨xs.len,by rw [fV.2 h],hk⟩
 ·rintro ⟨n,h,hk⟩
  split at h
  ·rename_i ow es xs h1
   injection h with h
   subst h
   exact ⟨es,xs,ow,fV.1 h1,hk⟩
  ·cases h
theorem aFd {neg:Bool} {n:Nat} {K:SV->Prop} (h1:n=0->K (.d (.bool (!neg)))) (h2:K (.d (.bool neg))):aCV neg n K:=⟨h1,h2⟩
@[congr] theorem aI7 {o o' : List Ob} {neg : Bool} {x x' : SV} {K : SV -> Prop} (ho : o = o') (hx : x = x') : j9 o neg x K = j9 o' neg x' K := by rw [ho, hx]
@[congr] theorem aNH {neg : Bool} {n n' : Nat} {K : SV -> Prop} (h : n = n') : aCV neg n K = aCV neg n' K := by rw [h]
def aIi (o:List Ob) (r:Nat):Option (List (List UInt8×Int)):=match o[r]? with
 | some (.mp kvs)=>some kvs
 | _=>none
theorem aCs {o:List Ob} {r:Nat} {kvs:List (List UInt8×Int)}:aIi o r=some kvs↔o[r]?=some (.mp kvs):=by
 unfold aIi; split
 ·rename_i h; rw [h]; simp
 ·rename_i h; constructor
  ·intro h; cases h
  ·intro h2; exact absurd h2 (h _)
theorem aPh {P:PG} {s:St} {KK:SV->St->Prop}:eJ P s .mkm KK=KK (.own s.o.length) ⟨s.e,s.o ++ [.mp []]⟩:=propext Iff.rfl
theorem aPJ {P:PG} {s:St} {m k v:Opd} {KK:SV->St->Prop}:eJ P s (.ins m k v) KK=pK s (lZ s.e m) (lZ s.e k) (lZ s.e v) KK:=propext Iff.rfl
theorem aOS {P:PG} {s:St} {m k:Opd} {KK:SV->St->Prop}:eJ P s (.lkp m k) KK=qA s (lZ s.e m) (lZ s.e k) KK:=propext Iff.rfl
@[congr] theorem aJS {s s' : St} {m m' k k' v v' : SV} {KK : SV -> St -> Prop} (h : s = s') (h1 : m = m') (h2 : k = k') (h3 : v = v') : pK s m k v KK = pK s' m' k' v' KK := by rw [h, h1, h2, h3]
@[congr] theorem aJH {s s' : St} {m m' k k' : SV} {KK : SV -> St -> Prop} (h : s = s') (h1 : m = m') (h2 : k = k') : qA s m k KK = qA s' m' k' KK := by rw [h, h1, h2]
theorem aKY {s:St} {r:Nat} {b:List UInt8} {n:Int} {KK:SV->St->Prop}:pK s (.own r) (.d (.str b)) (.d (.int .i64 n)) KK=jK (aIi s.o r) fun kvs=>jD (lkp kvs b=none) (KK .undef ⟨kW (eK r) s.e,s.o.set r (.mp (kvs ++ [(b,n)]))⟩):=by
 apply propext
 simp only [pK,jK,jD,aCs]
theorem aKe {s:St} {r:Nat} {b:List UInt8} {KK:SV->St->Prop}:qA s (.own r) (.d (.str b)) KK=jK (aIi s.o r) fun kvs=>KK (.tup [.d (.int .i64 ((lkp kvs b).getD 0)),.d (.bool (lkp kvs b).isSome)]) s:=by
 apply propext
 simp only [qA,jK,aCs]
end Go.Pe
set_option linter.all false
set_option maxRecDepth 100000
namespace Go.Pe
open Go Go.RowKit
def wA0:=And.intro @aEu (And.intro @aGL (And.intro @aGn (And.intro @aGf (And.intro @aEl (And.intro @aCB (And.intro @aEJ (And.intro @aEi (And.intro @aDc (And.intro @aKv (And.intro @aKh (And.intro @aK9 (And.intro @aOb (And.intro @aOM (And.intro @aPD (And.intro @aGD (And.intro @aI3 (And.intro @aKx (And.intro @aEm (And.intro @aDm (And.intro @aHs (And.intro @aHj (And.intro @aHO (And.intro @aLe (And.intro @aL6 (And.intro @aGg (And.intro @aEK (And.intro @aDI (And.intro @aBG (And.intro @aGI (And.intro @aIS (And.intro @aJw (And.intro @aI1 (And.intro @aGl (And.intro @aHz (And.intro @aIL (And.intro @aJr (And.intro @aIx (And.intro @aGQ (@aGp)))))))))))))))))))))))))))))))))))))))
def wA1:=And.intro @aEz (And.intro @aGj (And.intro @aId (And.intro @aDs (And.intro @aEO (And.intro @aLI (And.intro @aK6 (And.intro @aKl (And.intro @aJ5 (And.intro @aKK (And.intro @aJ8 (And.intro @aM9 (And.intro @aLG (And.intro @aLz (And.intro @aLa (And.intro @aKz (And.intro @aJ2 (And.intro @aLt (And.intro @aL7 (And.intro @aLD (And.intro @aKX (And.intro @aLC (And.intro @aLN (And.intro @aKn (And.intro @aKR (And.intro @aNa (And.intro @aMz (And.intro @aMV (And.intro @aNm (And.intro @aM2 (And.intro @aMZ (And.intro @aKD (And.intro @aOn (And.intro @aKt (And.intro @aNv (And.intro @aLJ (And.intro @aLk (And.intro @aN0 (And.intro @aP7 (@aNc)))))))))))))))))))))))))))))))))))))))
def wA2:=And.intro @aNt (And.intro @aLT (And.intro @aIJ (And.intro @aMY (And.intro @aPq (And.intro @aOv (And.intro @aQe (And.intro @aNn (And.intro @aOu (And.intro @aRF (And.intro @aM5 (And.intro @aPH (And.intro @aMO (And.intro @aNp (And.intro @aIf (And.intro @aLP (And.intro @aG4 (And.intro @aHv (And.intro @aPG (And.intro @aJV (And.intro @aSs (And.intro @aPa (And.intro @aP9 (And.intro @aOp (And.intro @aLy (And.intro @aJ4 (And.intro @aSL (And.intro @aMD (And.intro @aF3 (And.intro @aEG (And.intro @aIz (And.intro @aHA (And.intro @aNI (And.intro @aJe (And.intro @aHE (And.intro @aK2 (And.intro @aLQ (And.intro @aPm (And.intro @aKc (@aPs)))))))))))))))))))))))))))))))))))))))
def wA3:=And.intro @aHl (And.intro @aN7 (And.intro @aOL (And.intro @aLj (And.intro @aNb (And.intro @aMP (And.intro @aHC (And.intro @aNr (And.intro @aH8 (And.intro @aNF (And.intro @aMT (And.intro @aMH (And.intro @aIc (And.intro @aV (And.intro @aMF (And.intro @aRg (And.intro @aRZ (And.intro @aMW (And.intro @aF2 (And.intro @aGi (And.intro @aGy (And.intro @aGP (And.intro @aOC (And.intro @aKS (And.intro @aMM (And.intro @aPo (And.intro @aPk (And.intro @aML (And.intro @aPE (And.intro @aL5 (And.intro @aKC (And.intro @aO6 (And.intro @aKA (And.intro @aM4 (And.intro @aOq (And.intro @aOU (And.intro @aNh (And.intro @aEH (And.intro @aI4 (@aDP)))))))))))))))))))))))))))))))))))))))
def wA4:=And.intro @aKr (And.intro @aHP (And.intro @aGe (And.intro @aEV (And.intro @aFF (And.intro @aDV (And.intro @aCw (And.intro @aCL (And.intro @aJW (And.intro @aLl (And.intro @aKs (And.intro @aM7 (And.intro @aHI (And.intro @aNf (And.intro @aJx (And.intro @aLi (And.intro @aO0 (And.intro @aOB (And.intro @aO9 (And.intro @aLL (And.intro @aOc (And.intro @aOH (And.intro @aL4 (And.intro @aKa (And.intro @aN9 (And.intro @aOa (And.intro @aHw (And.intro @aRq (And.intro @aPz (And.intro @aNX (And.intro @aGa (And.intro @aOW (And.intro @aLF (And.intro @aGx (And.intro @aO2 (And.intro @aMS (And.intro @aL3 (And.intro @aH5 (And.intro @aGG (@aPh)))))))))))))))))))))))))))))))))))))))
def wA5:=And.intro @aPJ (And.intro @aOS (And.intro @aKY (@aKe)))
def wA:=And.intro @wA0 (And.intro @wA1 (And.intro @wA2 (And.intro @wA3 (And.intro @wA4 (@wA5)))))
def wC0:=And.intro @xB.eq_1 (And.intro @xB.eq_2 (And.intro @xB.eq_3 (And.intro @xB.eq_4 (And.intro @xB.eq_5 (And.intro @look.eq_1 (And.intro @look.eq_2 (And.intro @kE.eq_1 (@kE.eq_2))))))))
def wC:=@wC0
def wB0:=And.intro @aIm (And.intro @aKg (And.intro @aIB (And.intro @aKW (And.intro @aLd (And.intro @aNB (And.intro @aNj (And.intro @aKB (And.intro @aLW (And.intro @Nat.zero_add (And.intro @Nat.add_zero (And.intro @Bool.false_eq_true (And.intro @Bool.true_eq_false (And.intro @Bool.not_true (And.intro @Bool.not_false (And.intro @Bool.and_true (And.intro @Bool.true_and (And.intro @Bool.and_false (And.intro @Bool.false_and (And.intro @Bool.or_false (And.intro @Bool.false_or (And.intro @Bool.or_true (And.intro @Bool.true_or (And.intro @true_and (And.intro @and_true (And.intro @SV.own.injEq (And.intro @SV.ptr.injEq (And.intro @not_false_eq_true (And.intro @not_true_eq_false (And.intro @decide_true (And.intro @decide_false (And.intro @Option.some.injEq.{0} (And.intro @List.getElem?_cons_zero.{0} (And.intro @List.getElem?_cons_succ.{0} (And.intro @List.getElem?_nil.{0} (And.intro @List.set_cons_zero.{0} (And.intro @List.set_cons_succ.{0} (And.intro @List.length_cons.{0} (And.intro @List.length_nil.{0} (@List.length_append.{0})))))))))))))))))))))))))))))))))))))))
def wB1:=And.intro @List.cons_append.{0} (And.intro @List.nil_append.{0} (And.intro @List.append_nil.{0} (And.intro @List.any_cons.{0} (And.intro @List.any_nil.{0} (And.intro @List.all_cons.{0} (And.intro @List.all_nil.{0} (And.intro @List.map_cons.{0,0} (And.intro @List.map_nil.{0,0} (And.intro @if_true.{0} (And.intro @if_false.{0} (And.intro @beq_self_eq_true.{0} (And.intro @ne_eq.{0} (And.intro @eq_self.{0} (And.intro @beq_iff_eq.{0} (And.intro @List.append_assoc.{0} (And.intro @Option.map_some.{0,0} (And.intro @Option.map_none.{0,0} (And.intro @List.contains_nil.{0} (And.intro @List.contains_cons.{0} (And.intro @evL.eq_1 (And.intro @evL.eq_2 (And.intro @i7.eq_1 (And.intro @i7.eq_2 (And.intro @kN.eq_1 (And.intro @kN.eq_2 (And.intro @fI.eq_1 (And.intro @fN.eq_1 (And.intro @gF.eq_1 (And.intro @gF.eq_2 (And.intro @lZ.eq_1 (And.intro @lZ.eq_2 (And.intro @qJ.eq_1 (And.intro @qJ.eq_2 (And.intro @kX.eq_1 (And.intro @kX.eq_2 (And.intro @kS.eq_1 (And.intro @kS.eq_2 (And.intro @oR.eq_1 (@oV.eq_1)))))))))))))))))))))))))))))))))))))))
def wB2:=And.intro @aCv.eq_1 (And.intro @aC1.eq_1 (And.intro @aFJ.eq_1 (And.intro @elS.eq_1 (And.intro @elS.eq_2 (And.intro @aCM.eq_1 (And.intro @lenOf.eq_1 (And.intro @eF.eq_1 (And.intro @eF.eq_2 (And.intro @kW.eq_1 (And.intro @kW.eq_2 (And.intro @rL.eq_1 (And.intro @rL.eq_2 (And.intro @eI.eq_1 (And.intro @eI.eq_2 (And.intro @iR.eq_1 (And.intro @iR.eq_2 (And.intro @iR.eq_3 (And.intro @iR.eq_4 (And.intro @iR.eq_5 (And.intro @iR.eq_6 (And.intro @eK.eq_1 (And.intro @eK.eq_2 (And.intro @eK.eq_3 (And.intro @cO.eq_1 (And.intro @cO.eq_2 (And.intro @l6.eq_1 (And.intro @l6.eq_2 (And.intro @qH.eq_1 (And.intro @qH.eq_2 (And.intro @D.pre.eq_1 (And.intro @D.pre.eq_2 (And.intro @D.nth.eq_1 (And.intro @D.nth.eq_2 (And.intro @D.nth.eq_3 (And.intro @D.size.eq_1 (And.intro @D.size.eq_2 (And.intro @D.size.eq_3 (And.intro @D.size.eq_4 (@D.len.eq_1)))))))))))))))))))))))))))))))))))))))
def wB3:=And.intro @D.len.eq_2 (And.intro @iS.eq_1 (And.intro @iS.eq_2 (And.intro @iS.eq_3 (And.intro @eV.eq_1 (And.intro @eV.eq_2 (And.intro @eV.eq_3 (And.intro @j6.eq_1 (And.intro @j6.eq_2 (And.intro @j6.eq_3 (And.intro @D.setN.eq_1 (And.intro @D.setN.eq_2 (And.intro @D.setN.eq_3 (And.intro @D.noOwn.eq_1 (And.intro @D.noOwn.eq_2 (And.intro @D.noOwn.eq_3 (And.intro @D.noOwn.eq_4 (And.intro @D.noOwn.eq_5 (And.intro @D.noOwn.eq_6 (And.intro @D.unown.eq_1 (And.intro @D.unown.eq_2 (And.intro @D.unown.eq_3 (And.intro @D.unown.eq_4 (And.intro @D.unown.eq_5 (And.intro @D.unown.eq_6 (And.intro @D.app.eq_1 (And.intro @D.app.eq_2 (And.intro @iM.eq_1 (And.intro @iM.eq_2 (And.intro @List.replicate.eq_1.{0} (And.intro @List.replicate.eq_2.{0} (And.intro @aFG.eq_1 (And.intro @aIi.eq_1 (And.intro @n7.eq_1 (And.intro @n7.eq_2 (And.intro @n7.eq_3 (And.intro @unT.eq_1 (And.intro @unT.eq_2 (And.intro @aCC.eq_1 (@aCC.eq_2)))))))))))))))))))))))))))))))))))))))
def wB4:=And.intro @w7.eq_1 (And.intro @w7.eq_2 (And.intro @w7.eq_3 (And.intro @D.isOne.eq_1 (And.intro @D.isOne.eq_2 (And.intro @D.isOne.eq_3 (And.intro @D.isOne.eq_4 (And.intro @D.caps.eq_1 (And.intro @D.caps.eq_2 (And.intro @D.caps.eq_3 (And.intro @D.list.eq_1 (And.intro @D.list.eq_2 (And.intro @mH.eq_1 (And.intro @mH.eq_2 (And.intro @dP.eq_1 (And.intro @dP.eq_2 (And.intro @eR.eq_1 (And.intro @eR.eq_2 (And.intro @eR.eq_3 (And.intro @eR.eq_4 (And.intro @eR.eq_5 (And.intro @eR.eq_6 (And.intro @eR.eq_7 (And.intro @eR.eq_8 (And.intro @eR.eq_9 (And.intro @qS.eq_1 (And.intro @y8.eq_1 (And.intro @y8.eq_2 (And.intro @tP.eq_1 (And.intro @tP.eq_2 (And.intro @tP.eq_3 (And.intro @sE.eq_1 (And.intro @sE.eq_2 (And.intro @sE.eq_3 (And.intro @sE.eq_4 (And.intro @sE.eq_5 (And.intro @oW.eq_1 (And.intro @oW.eq_2 (And.intro @pA.eq_1 (@pA.eq_2)))))))))))))))))))))))))))))))))))))))
def wB5:=And.intro @wG.eq_1 (And.intro @nU.eq_1 (And.intro @nU.eq_2 (And.intro @aLZ.eq_1 (And.intro @aLZ.eq_2 (And.intro @sK.eq_1 (And.intro @sK.eq_2 (And.intro @sK.eq_3 (And.intro @sK.eq_4 (And.intro @eqO.eq_1 (And.intro @eqO.eq_2 (And.intro @xF.eq_1 (And.intro @xF.eq_2 (And.intro @tF.eq_1 (And.intro @pU.eq_1 (And.intro @pU.eq_2 (@pU.eq_3))))))))))))))))
def wB:=And.intro @wB0 (And.intro @wB1 (And.intro @wB2 (And.intro @wB3 (And.intro @wB4 (@wB5)))))
end Go.Pe
set_option linter.all false
namespace Go.Pe
open Go Go.RowKit
theorem cP {P:PG} {s:St} {Q:Exit->St->Prop} {x:MC} (n:Nat) (S:Nat->St) (inv:Nat->Prop) (h0:eN s (S 0)) (hi:inv 0)
  (step:∀ i,i < n->inv i->decide ((i:Int) < (n:Int))=true->(0:Int)<=(i:Int)->dA P x (S i) (nY (fun s'=>∃ y,eN s' (S y)/\(y<=n/\inv y)/\n - y < n - i) Q))
  (done:inv n->decide ((n:Int) < (n:Int))=false->dA P x (S n) (nY (fun s'=>∃ y,eN s' (S y)/\(y<=n/\inv y)/\n - y < n - n) Q)):dA P (.loop x) s Q:=by
 refine dZ S (fun i=>i<=n/\inv i) (fun i=>n - i) 0 h0 ⟨Nat.zero_le _,hi⟩ ?_
 rintro i ⟨h1,h2⟩
 by_cases h:i < n
 ·exact step i h h2 (decide_eq_true (by omega)) (by omega)
 ·have e:i=n:=by omega
  subst e
  exact done h2 (decide_eq_false (by omega))
theorem d8 {s':St} {n i:Nat} {S:Nat->St} {inv:Nat->Prop} (hw:eN s' (S (i + 1))) (hi:i < n) (h:inv (i + 1)):∃ y,eN s' (S y)/\(y<=n/\inv y)/\n - y < n - i:=⟨i + 1,hw,⟨by omega,h⟩,by omega⟩
theorem w4 {P:PG} {s:St} {Q:Exit->St->Prop} {x:MC} (ts:List (Nat×Nat)) (n:Nat) (S:Nat->St) (inv:Nat->Prop) (hn:aDe ts s) (h0:eN (aI6 ts s) (S 0)) (hi:inv 0)
  (step:∀ i,i < n->inv i->decide ((i:Int) < (n:Int))=true->(0:Int)<=(i:Int)->dA P x (S i) (nY (fun s'=>∃ y,eN s' (S y)/\(y<=n/\inv y)/\n - y < n - i) Q))
  (done:inv n->decide ((n:Int) < (n:Int))=false->dA P x (S n) (nY (fun s'=>∃ y,eN s' (S y)/\(y<=n/\inv y)/\n - y < n - n) Q)):dA P (.loop x) s Q:=by
 refine aFg ts S (fun i=>i<=n/\inv i) (fun i=>n - i) 0 hn h0 ⟨Nat.zero_le _,hi⟩ ?_
 rintro i ⟨h1,h2⟩
 by_cases h:i < n
 ·exact step i h h2 (decide_eq_true (by omega)) (by omega)
 ·have e:i=n:=by omega
  subst e
  exact done h2 (decide_eq_false (by omega))
theorem uW {p:Nat->Prop} {i:Nat} (h:∀ j,j < i->p j) (hi:p i):∀ j,j < i + 1->p j:=fun j hj=>by
 by_cases e:j=i
 ·subst e; exact hi
 ·exact h j (by omega)
end Go.Pe
set_option linter.all false
namespace Go.Pe
open Go Go.RowKit
def aW (q:Nat) (y:D):SV->SV
 | .ptr r off p=>if r=q then (if off=0/\p=[] then .d (.ptr y) else .any) else .ptr r off p
 | s=>if eI q s then .any else s
def aY (q:Nat) (y:D):gI->gI
 | []=>[]
 |(t,s) :: e=>(t,aW q y s) :: aY q y e
theorem zE (q:Nat) (y:D):∀ (e:gI) (t:Nat),look (aY q y e) t=aW q y (look e t)
 | [],t=>by simp [aY,look,aW,eI,iR]
 |(k,s) :: e,t=>by
  simp only [aY,look]
  by_cases h:k=t
  ·simp only [h,if_true]
  ·simp only [h,if_false]; exact zE q y e t
theorem gG {s:St} (q:Nat) {x:D} (hq:s.o[q]?=some (.box x)):eN s ⟨aY q x.unown s.e,s.o.set q .dead⟩:=by
 intro c C a w hr
 focus
  have hql:=bC hq
  have hlen:=hr.wd.len
  obtain ⟨oc,hC⟩:∃ oc,C[q]?=some oc:=⟨C[q]'(by omega),List.getElem?_eq_getElem _⟩
  have hCl:=bC hC
  have hnC:=cD.1 hr.wd.nodup
  let C':=C.set q { oc with fp:=[] }
  have get:∀ (j:Nat) (od:OC),C'[j]?=some od->(j=q/\od={ oc with fp:=[] })\/(j≠q/\C[j]?=some od):=by
   intro j od hj
   rw [List.getElem?_set] at hj
   by_cases e:q=j
   ·rw [if_pos e,if_pos (by omega)] at hj; injection hj with hj; exact .inl ⟨e.symm,hj.symm⟩
   ·rw [if_neg e] at hj; exact .inr ⟨fun h=>e h.symm,hj⟩
  have hsub:∀ b∈dN C',b∈dN C/\b ∉ oc.fp:=by
   intro b hb
   obtain ⟨j,od,hj,hb'⟩:=bP.1 hb
   rcases get j od hj with ⟨_,rfl⟩|⟨hne,hj⟩
   ·cases hb'
   ·exact ⟨bP.2 ⟨j,od,hj,hb'⟩,fun h=>hnC.2 j q od oc hne hj hC b hb' h⟩
  have hmem:∀ b∈dN C',(b∈dN C\/w.heap.size<=b)/\b < w.heap.size:=fun b hb=>⟨.inl (hsub b hb).1,hr.wd.lt b (hsub b hb).1⟩
  have hg:=Went.of_ext (kP.refl w) (fun _=>False)
  have hX:∀ b,(fun _=>False:Nat->Prop) b->b∈dN C:=fun b hb=>hb.elim
  have hwd:RelW c (s.o.set q .dead) C' w:=by
   have hold:∀ (p r:Nat) (v:Value),(s.o.set q .dead)[p]?=some (.tag r v)->s.o[p]?=some (.tag r v):=by
    intro p r v hp
    rw [List.getElem?_set] at hp
    by_cases e:q=p
    ·rw [if_pos e] at hp
     split at hp
     ·injection hp with hp; cases hp
     ·cases hp
    ·rw [if_neg e] at hp; exact hp
   refine hr.wd.upd hg hX (by simp [C',hlen]) ?_ ?_ hmem (fun p r v hp=>.inl (hold p r v hp)) (fun p r v od _ h=>by
    by_cases e:q=r
    ·subst e
     rw [hC] at h
     injection h with h
     subst h
     exact ⟨{ oc with fp:=[] },by rw [List.getElem?_set]; simp [hCl],rfl⟩
    ·exact ⟨od,by rw [List.getElem?_set,if_neg e]; exact h,rfl⟩)
   ·intro j ob ocj h1 h2
    rcases get j ocj h2 with ⟨e,rfl⟩|⟨hne,h3⟩
    ·rw [e,List.getElem?_set,if_pos rfl,if_pos hql] at h1
     injection h1 with h1
     subst h1
     exact .inr rfl
    ·rw [List.getElem?_set,if_neg (fun h=>hne h.symm)] at h1
     exact .inl ⟨h1,h3,fun _ _ h=>h⟩
   ·refine cD.2 ⟨fun j od hj=>?_,fun j i od oe hne hj hi b hb hb'=>?_⟩
    ·rcases get j od hj with ⟨_,rfl⟩|⟨_,hj⟩
     ·exact List.nodup_nil
     ·exact hnC.1 j od hj
    ·rcases get j od hj with ⟨_,rfl⟩|⟨_,hj⟩
     ·cases hb
     ·rcases get i oe hi with ⟨_,rfl⟩|⟨_,hi⟩
      ·cases hb'
      ·exact hnC.2 j i od oe hne hj hi b hb hb'
  refine ⟨C',hr.tmps,hr.defers,fun t=>?_,hwd,hr.fix⟩
  simp only [zE]
  have hv:=hr.env t
  generalize look s.e t=sv at *
  generalize a.tmps.getD t Go.undef=v at *
  have other:∀ sv:SV,(∀ xs,sv≠.tup xs)->iR q sv=false->cB w (Ms c C) C sv v->cB w (Ms c C') C' sv v:=by
   intro sv hn h0 hv
   refine pD (e7.upd (X:=fun _=>False) hg hX hmem ?_ ?_ ?_)
   ·intro r od h1 h2
    have hne:r≠q:=fun e=>by rw [e,h0] at h1; cases h1
    exact ⟨od,by rw [List.getElem?_set,if_neg (fun h=>hne h.symm)]; exact h2,rfl,rfl⟩
   ·intro r od od' h1 h2 h3 h4
    subst h1
    have hne:r≠q:=fun e=>by rw [e] at h0; simp [iR] at h0
    rw [List.getElem?_set,if_neg (fun h=>hne h.symm),h2] at h4
    injection h4 with h4
    subst h4
    exact ⟨h3,fun h=>h⟩
   ·cases sv<;>first|exact hv|exact absurd rfl (hn _)
  cases sv with
  | ptr r off p =>
   simp only [aW]
   by_cases e:r=q
   ·subst e
    rw [if_pos rfl]
    by_cases e2:off=0/\p=[]
    ·rw [if_pos e2]
     obtain ⟨rfl,rfl⟩:=e2
     obtain ⟨oc1,h1,h2⟩:=hv
     rw [hC] at h1
     injection h1 with h1
     subst h1
     obtain ⟨cs,fps,h3,h4,h5⟩:=hr.wd.obs r _ oc hq hC
     subst h2
     have hblk:¬ Ms c C' oc.blk:=by
      rintro (hm|hm)
      ·exact hr.wd.apart oc.blk (bP.2 ⟨r,oc,hC,by rw [h5]; simp⟩) hm
      ·exact (hsub oc.blk hm).2 (by rw [h5]; simp)
     refine mA (fY _ _ _ ?_ ?_ h4) (iO.of_row h3 hblk)
     ·intro b hb
      rcases hb with hb|hb
      ·exact .inl hb
      ·exact .inr (hsub b hb).1
     ·intro b hb hm
      rcases hm with hm|hm
      ·exact hr.wd.apart b (bP.2 ⟨r,oc,hC,by rw [h5]; simp [hb]⟩) hm
      ·exact (hsub b hm).2 (by rw [h5]; simp [hb])
    ·rw [if_neg e2]; trivial
   ·rw [if_neg e]
    exact other _ (fun xs h=>by cases h) (by simp [iR,e]) hv
  | tup xs =>
   simp only [aW]
   split
   ·trivial
   ·rename_i h0
    obtain ⟨vs,k1,k2,k3⟩:=hv
    refine ⟨vs,k1,k2,fun i sx u hsi hu=>?_⟩
    have hx0:iR q sx=false:=by
     simp only [eI,List.any_eq_true,not_exists,not_and,Bool.not_eq_true] at h0
     exact h0 sx (List.mem_of_getElem? hsi)
    refine e7.upd (X:=fun _=>False) hg hX hmem ?_ ?_ (k3 i sx u hsi hu)
    ·intro r od h1 h2
     have hne:r≠q:=fun e=>by rw [e,hx0] at h1; cases h1
     exact ⟨od,by rw [List.getElem?_set,if_neg (fun h=>hne h.symm)]; exact h2,rfl,rfl⟩
    ·intro r od od' h1 h2 h3 h4
     subst h1
     have hne:r≠q:=fun e=>by rw [e] at hx0; simp [iR] at hx0
     rw [List.getElem?_set,if_neg (fun h=>hne h.symm),h2] at h4
     injection h4 with h4
     subst h4
     exact ⟨h3,fun h=>h⟩
  | any=>trivial
  | undef=>exact hv
  | d y=>exact other _ (fun xs h=>by cases h) rfl hv
  | nil=>exact hv
  | own r =>
   simp only [aW]
   split
   ·trivial
   ·rename_i h0; exact other _ (fun xs h=>by cases h) (by simpa [eI] using h0) hv
  | el r es i off p =>
   simp only [aW]
   split
   ·trivial
   ·rename_i h0; exact other _ (fun xs h=>by cases h) (by simpa [eI] using h0) hv
  | vw r =>
   simp only [aW]
   split
   ·trivial
   ·rename_i h0; exact other _ (fun xs h=>by cases h) (by simpa [eI] using h0) hv
  | win r es lo =>
   simp only [aW]
   split
   ·trivial
   ·rename_i h0; exact other _ (fun xs h=>by cases h) (by simpa [eI] using h0) hv
theorem aJc {s:St} (q:Nat) {x:D} (hq:s.o[q]?=some (.val x)):eN s ⟨jX q x.unown s.e,s.o.set q .dead⟩:=fun c C a w hr=>by
 have h:=aAx q hr
 unfold lA at h
 rw [hq] at h
 exact h
end Go.Pe
set_option linter.all false
namespace Go.Pe
open Go Go.RowKit
end Go.Pe
set_option linter.all false
namespace Go.Pe
open Go Go.RowKit
section
variable {P : Program} {n r : Nat} {ops : Array Oper} {Q : Exit -> Act -> World -> Prop}
def nW (ops:Array Oper):Bool:=ops.all fun o=>match o.op with
 | .defer _=>false
 | _=>true
theorem aPB {o:Oper} {a:Act} {w:World} {K:Act->World->Prop} (hd:∀ c,o.op≠.defer c) (h:o.wp P a w K Q):o.wpIn (Fence.wide.inRound r) n P a w K Q:=by
 refine ⟨fun f _=>trivial,?_⟩
 rw [Oper.semAt_plain _ _ _ hd]
 unfold Oper.wp at h
 generalize (execOp a.eval o).run P w=x at h ⊢
 have hdep:(Fence.wide.inRound r).depth.isSome=true->1<=n:=fun h=>by cases h
 cases x with
 | ok y w' =>
  cases y with
  | value v=>exact h
  | skip=>exact h
  | defer d=>exact h
  | enter f args=>exact ⟨hdep,CallsIn.inRound r (callsIn_wide.2 h)⟩
  | row row args=>exact ⟨hdep,fun c cs _=>by obtain ⟨v,w2,h1,h2⟩:=h c cs; exact ⟨v,w2,h1,stepsIn_wide.2 h2⟩⟩
  | round l f t as bd=>exact h.elim
  | _=>exact h
 | halt hv w' =>
  cases hv<;>exact h
theorem zF (hd:nW ops=true) (hQ:∀ a w,¬ Q .outgrown a w):∀ (l:List Nat) (a:Act) (w:World),wpOps P ops Q l a w->wpOpsIn (Fence.wide.inRound r) n P ops Q l a w
 | [],a,w,h=>h
 | i :: l,a,w,h=>by
  simp only [wpOps] at h
  simp only [wpOpsIn]
  cases ho:ops[i]? with
  | none=>rw [ho] at h; exact zF hd hQ l a w h
  | some o =>
   rw [ho] at h
   simp only at h ⊢
   have hdo:∀ c,o.op≠.defer c:=fun c e=>by
    have:=Array.all_eq_true.1 hd i (by have:=(Array.getElem?_eq_some_iff.1 ho).1; exact this)
    rw [(Array.getElem?_eq_some_iff.1 ho).2,e] at this
    cases this
   split
   ·rename_i hw
    rw [if_pos hw] at h
    rcases h with h|⟨_,a0,w0,h⟩
    ·exact Oper.wpIn_mono (fun a' w' h'=>zF hd hQ l a' w' h') (aPB hdo h)
    ·exact absurd h (hQ a0 w0)
   ·rename_i hw
    rw [if_neg hw] at h
    exact ⟨fun f _=>trivial,zF hd hQ l _ w h⟩
theorem sP {id:Nat} {a:Act} {w:World} (hd:nW ops=true) (hQ:∀ a w,¬ Q .outgrown a w) (hm:P.follows .mixedOrders=true)
  (h:wpAny P .any ops Q ops.size (Array.replicate ops.size false) a { w with drawn:=w.drawn + 1 }):(Code.region id ops true).wpIn (Fence.wide.inRound r) n P Q a w :=
 wpIn_region_draw fun t=>by
  simp only [Region.schedule,hm,Bool.true_or,if_true]
  exact zF hd hQ _ _ _ (wpAny_sound ops.size t _ a _ h)
theorem yO {id:Nat} {a:Act} {w:World} (hd:nW ops=true) (hQ:∀ a w,¬ Q .outgrown a w) (h:wpList P ops Q ops.toList a w):(Code.region id ops false).wpIn (Fence.wide.inRound r) n P Q a w :=
 wpIn_region (zF hd hQ _ _ _ (by rw [List.range_eq_range',<-Array.length_toList,wpOps_eq_wpList ops.toList 0 (by simp)]; exact h))
end
section
variable {c : Ctx} {ob : List Ob} {C : List OC} {E : Nat -> SV} {a : Act} {w : World} {s : St} {ops : Array Oper} {r n : Nat}
theorem vY {id:Nat} {Q:Exit->Act->World->Prop} {Q':(Nat->SV)->Prop} (hnd:nW ops=true) (hno:∀ a w,¬ Q .outgrown a w) (hm:c.P.follows .mixedOrders=true) (hB:Region.lexB .any ops=true) (hd:∀ (j:Nat) (o:Oper) (d:Nat),ops[j]?=some o->o.dst=some d->c.lo<=d/\d < c.n)
  (hr:RelE c ob C E a w) (h:yT c ob C ops Q' ops.toList E) (hQ:∀ E a w,RelE c ob C E a w->Q' E->Q .normal a w):(Code.region id ops true).wpIn (Fence.wide.inRound r) n c.P Q a w:=by
 simp only [Region.lexB,Bool.and_eq_true] at hB
 refine sP hnd hno hm (s6 (Q:=Q') hd hQ _ _ E _ _ ?_ ?_)
 ·have hx:kP w { w with drawn:=w.drawn + 1 }:=⟨rfl,rfl,rfl,Nat.le_refl _,fun _ _=>rfl⟩
  exact ⟨hr.tmps,hr.defers,fun t=>(hr.env t).ext hx,hr.wd.ext hx,hr.fix⟩
 ·have:=tC (c:=c) (ob:=ob) (C:=C) (md:=.any) ops.toList 0 (Array.replicate ops.size false) E (by simp) (by simpa using hB.2) h
  simpa using this
theorem aAp {ts un:List Nat} {p:MP} {id:Nat} {K:St->Prop} {Q:Act->World->Prop} (hnd:nW ops=true) (hp:wL c.P c.nn ops ts=some (un,p)) (hr:Rel c s C a w) (hx:d4 c.G un p [] s K) (hQ:∀ s C a w,Rel c s C a w->K s->Q a w):(Code.region id ops true).wpIn (Fence.wide.inRound r) n c.P (fun e a w=>e=.normal/\Q a w) a w:=by
 unfold wL at hp
 split at hp
 ·cases hp
 ·rename_i k r
  split at hp
  ·rename_i sk hd
   split at hp
   ·rename_i hc
    simp only [Bool.and_eq_true,decide_eq_true_eq] at hc
    obtain ⟨⟨⟨h1,h2⟩,h3⟩,h4⟩:=hc
    obtain ⟨p',hp1,hp2⟩:=Option.map_eq_some_iff.1 hp
    injection hp2 with e1 e2
    subst e1 e2
    have hx2:kP w { w with drawn:=w.drawn + 1 }:=⟨rfl,rfl,rfl,Nat.le_refl _,fun _ _=>rfl⟩
    have hr':Rel c s C a { w with drawn:=w.drawn + 1 }:=⟨hr.tmps,hr.defers,fun t=>(hr.env t).ext hx2,hr.wd.ext hx2,hr.fix⟩
    have:=(aAk (c:=c) (ops:=ops) (un:=r.take k) (K:=K) (Q:=fun e a w=>e=.normal/\Q a w) h2 (fun s C a w h1 h2=>⟨rfl,hQ s C a w h1 h2⟩) (fun ch a w h=>by cases h.1) sk p' true true _ ops.size [] s C a _ (fun _=>False) h3 hp1 h4 hr' (fun _ b hb=>hb.elim) hx).1 rfl
    exact sP hnd (fun a w h=>by cases h.1) h1 (tE _ _ _ _ this)
   ·cases hp
  ·cases hp
end
def j8:Code->Bool
 | .skip=>true
 | .region _ ops _=>nW ops
 | .seq a b=>j8 a && j8 b
 | .cond _ a b=>j8 a && j8 b
 | .block _ b=>j8 b
 | .exit _=>true
 | _=>false
def sM:MC->Bool
 | .skip=>true
 | .reg _ _ _=>true
 | .any _ _ _=>true
 | .seq a b=>sM a && sM b
 | .cond _ a b=>sM a && sM b
 | .block _ b=>sM b
 | .exit _=>true
 | .gh m=>sM m
 | _=>false
def aME (c:Ctx) (r:Nat) (m:MC) (s:St) (Q:Exit->St->Prop):Prop :=
 ∀ n lv code,comp c.P c.nn lv code=some m->j8 code=true->∀ C a w,Rel c s C a w->code.wpIn (Fence.wide.inRound r) n c.P (fun e a' w'=>∃ s' C',Q e s'/\Rel c s' C' a' w') a w
section
variable {c : Ctx} {r : Nat} {s : St} {Q : Exit -> St -> Prop}
theorem aGC {draw:Bool} {lv:List Nat} {ms:List MOp} (hx:dS c.G ms s (fun s'=>Q .normal ⟨kS lv s'.e,s'.o⟩)):aME c r (.reg draw lv ms) s Q:=by
 intro n lv' code hc hnd C a w hr
 obtain ⟨id,ops,rfl,h1,h2⟩:=aDk hc
 have hnd:nW ops=true:=hnd
 refine wpIn_mono (Q:=fun e a' w'=>e=.normal/\∃ s' C',Q .normal s'/\Rel c s' C' a' w') ?_ (fun e a' w' ⟨h,h'⟩=>by subst h; exact h')
 cases draw with
 | true =>
  obtain ⟨h3,h4⟩:=h2 rfl
  refine vY (C:=C) hnd (fun a w h=>by cases h.1) h3 h4 (fun j o d hj=>rA _ _ h1 o (List.mem_of_getElem? (by rw [Array.getElem?_toList]; exact hj)) d) hr.relE (nV _ _ s _ h1 hx) ?_
  rintro E a' w' hE ⟨e',hK,rfl⟩
  exact ⟨rfl,_,C,hK,Rel.weak (s:=⟨e',s.o⟩) ⟨hE.tmps,hE.defers,hE.env,hE.wd,hE.fix⟩ (jI lv e')⟩
 | false =>
  refine yO hnd (fun a w h=>by cases h.1) (jJ (K:=fun s'=>Q .normal ⟨kS lv s'.e,s'.o⟩) ?_ _ _ s C a w h1 hr hx)
  intro s' C' a' w' hr' hK
  exact ⟨rfl,_,C',hK,hr'.weak (jI lv s'.e)⟩
theorem aJo {un lv:List Nat} {p:MP} {J:St->Prop} (hx:d4 c.G un p [] s fun s'=>J ⟨kS lv s'.e,s'.o⟩) (hJ:∀ s',J s'->∃ s1,eN s' s1/\Q .normal s1):aME c r (.any un lv p) s Q:=by
 intro n lv' code hc hnd C a w hr
 obtain ⟨id,ops,ts,rfl,hp⟩:=aC5 hc
 have hnd:nW ops=true:=hnd
 refine wpIn_mono (Q:=fun e a' w'=>e=.normal/\∃ s' C',Q .normal s'/\Rel c s' C' a' w') ?_ (fun e a' w' ⟨h,h'⟩=>by subst h; exact h')
 refine aAp hnd hp hr hx ?_
 intro s' C' a' w' hr' hK
 obtain ⟨s1,h1,h2⟩:=hJ _ hK
 obtain ⟨C1,h3⟩:=(hr'.weak (e':=kS lv s'.e) (jI lv s'.e)).weaken h1
 exact ⟨s1,C1,h2,h3⟩
end
theorem iP {c:Ctx} {r:Nat}:∀ (m:MC) (s:St) (Q:Exit->St->Prop),sM m=true->dA c.G m s Q->aME c r (gX m) s Q
 | .gh m,s,Q,hf,h=>by
  obtain ⟨α,S,hk,h⟩:=h
  intro n lv code hc hnd C a w hr
  obtain ⟨x,C',hr'⟩:=hk c C a w hr
  exact iP m (S x) Q hf (h x) n lv code hc hnd C' a w hr'
 | .skip,s,Q,_,h=>by
  intro n lv code hc hnd C a w hr
  cases code<;>simp only [comp] at hc
  case skip=>exact wpIn_skip ⟨s,C,h,hr⟩
  all_goals first
   |(split at hc<;>(try split at hc)<;>(try split at hc)<;>first|cases hc|(injection hc with hc; cases hc))
   |(simp only [Option.map_eq_some_iff] at hc; obtain ⟨_,_,hc⟩:=hc; cases hc)
   |(injection hc with hc; cases hc)
   | cases hc
 | .exit i,s,Q,_,h=>by
  intro n lv code hc hnd C a w hr
  have:=aBA hc
  subst this
  exact wpIn_exit ⟨s,C,h,hr⟩
 | .any un lv p,s,Q,_,h=>by
  obtain ⟨J,h1,h2⟩:=h
  exact aJo h1 h2
 | .reg d lv ms,s,Q,_,h=>aGC h
 | .seq x y,s,Q,hf,h=>by
  simp only [sM,Bool.and_eq_true] at hf
  intro n lv code hc hnd C a w hr
  obtain ⟨a',b',rfl,h1,h2⟩:=aCD hc
  simp only [j8,Bool.and_eq_true] at hnd
  refine wpIn_seq (wpIn_mono (iP x s _ hf.1 h n lv a' h1 hnd.1 C a w hr) ?_)
  rintro e a1 w1 ⟨s1,C1,hq,hr1⟩
  cases e with
  | normal=>exact iP y s1 Q hf.2 hq n lv b' h2 hnd.2 C1 a1 w1 hr1
  | _=>exact ⟨s1,C1,hq,hr1⟩
 | .cond p x y,s,Q,hf,h=>by
  simp only [sM,Bool.and_eq_true] at hf
  simp only [dA] at h
  intro n lv code hc hnd C a w hr
  obtain ⟨q,a',b',rfl,h3,h4,h5⟩:=aAU hc
  simp only [j8,Bool.and_eq_true] at hnd
  split at h
  ·rename_i b hb
   have hv:=gV hr h3
   rw [hb] at hv
   exact wpIn_cond_split (cR.1 hv) (fun hh=>iP x s Q hf.1 (h.1 hh) n lv a' h4 hnd.1 C a w hr) (fun hh=>iP y s Q hf.2 (h.2 hh) n lv b' h5 hnd.2 C a w hr)
  ·exact h.elim
 | .block i x,s,Q,hf,h=>by
  intro n lv code hc hnd C a w hr
  obtain ⟨b',rfl,h1⟩:=aAn hc
  refine wpIn_block (wpIn_mono (iP x s _ hf h n lv b' h1 hnd C a w hr) ?_)
  rintro e a1 w1 ⟨s1,C1,hq,hr1⟩
  cases e with
  | exit j =>
   simp only [inB] at hq
   simp only [Exit.inBlock]
   split
   ·rename_i hi; rw [if_pos hi] at hq; exact ⟨s1,C1,hq,hr1⟩
   ·rename_i hi; rw [if_neg hi] at hq; exact ⟨s1,C1,hq,hr1⟩
  | _=>exact ⟨s1,C1,hq,hr1⟩
 | .loop _,_,_,hf,_=>by cases hf
 | .ret,_,_,hf,_=>by cases hf
 | .hole,_,_,hf,_=>by cases hf
def kL:Code->Option Code
 | .rangeFunc _ _ _ b=>some b
 | .seq a b=>(kL a).or (kL b)
 | .cond _ a b=>(kL a).or (kL b)
 | .block _ b=>kL b
 | .loop b=>kL b
 | _=>none
theorem aFD (ps:List (List Nat)) {P:PG} {body:Option Code} {m:MC} {lo n0:Nat} {lv:List (Nat×List Nat)} (hb:(body.bind fun c=>(kL c).bind (comp P.P (lo,n0) lv))=some m) (hnd:(body.bind fun c=>(kL c).map j8)=some true) (hf:sM (dP ps m)=true)
  {s:St} {Q:Exit->St->Prop} (h:dA P (dP ps m) s Q):∃ b,body.bind kL=some b/\∀ (c:Ctx),c.G=P->c.nn=(lo,n0)->∀ C a w,Rel c s C a w->∀ r n,b.wpIn (Fence.wide.inRound r) n P.P (fun e a' w'=>∃ s' C',Q e s'/\Rel c s' C' a' w') a w:=by
 cases body with
 | none=>cases hb
 | some code =>
  simp only [Option.bind_some] at hb hnd
  cases hc:kL code with
  | none=>rw [hc] at hb; cases hb
  | some b =>
   rw [hc] at hb hnd
   simp only [Option.bind_some,Option.map_some,Option.some.injEq] at hb hnd
   refine ⟨b,hc,fun c hP hn C a w hr r n=>?_⟩
   subst hP
   have he:gX (dP ps m)=m:=(lY ps m).trans (zR b m hb)
   have:=iP (c:=c) (r:=r) (dP ps m) s Q hf h
   rw [he] at this
   exact this n lv b (by rw [hn]; exact hb) hnd C a w hr
end Go.Pe
set_option linter.all false
namespace Go.Pe
open Go Go.RowKit
def jL {α:Type} (p:α->Bool) (xs:List α):Int:=match xs.findIdx? p with
 | some i=>(i:Int)
 | none=>-1
theorem pF {α:Type} {p:α->Bool} {xs:List α} {i:Nat} {r:α} (hr:xs[i]?=some r) (hp:p r=true) (h:∀ (j:Nat) (s:α),j < i->xs[j]?=some s->p s=false):jL p xs=(i:Int):=by
 have hi:=bC hr
 have e:xs.findIdx? p=some i:=by
  rw [List.findIdx?_eq_some_iff_getElem]
  refine ⟨hi,?_,fun j hj=>?_⟩
  ·rw [List.getElem?_eq_getElem hi] at hr; injection hr with hr; rw [hr]; exact hp
  ·have:=h j (xs[j]'(by omega)) hj (List.getElem?_eq_getElem _)
   simp [this]
 simp only [jL,e]
theorem mZ {α:Type} {p:α->Bool} {xs:List α} (h:∀ (j:Nat) (s:α),xs[j]?=some s->p s=false):jL p xs=-1:=by
 have e:xs.findIdx? p=none:=by
  rw [List.findIdx?_eq_none_iff]
  intro x hx
  obtain ⟨j,hj⟩:=List.getElem?_of_mem hx
  exact h j x hj
 simp only [jL,e]
theorem sG {α:Type} {p:α->Bool} {xs:List α}:decide (0<=jL p xs)=xs.any p:=by
 cases h:xs.findIdx? p with
 | none =>
  have h1:=h
  rw [List.findIdx?_eq_none_iff] at h
  have:xs.any p=false:=by rw [List.any_eq_false]; intro x hx; simp [h x hx]
  simp [jL,h1,this]
 | some i =>
  have h1:=h
  rw [List.findIdx?_eq_some_iff_getElem] at h
  obtain ⟨hi,hp,_⟩:=h
  have:xs.any p=true:=by rw [List.any_eq_true]; exact ⟨_,List.getElem_mem hi,hp⟩
  simp [jL,h1,this]
theorem aDx {α:Type} {p:α->Bool} {xs:List α} (h:0<=jL p xs):∃ (i:Nat) (r:α),jL p xs=(i:Int)/\xs[i]?=some r/\p r=true:=by
 cases e:xs.findIdx? p with
 | none=>simp [jL,e] at h
 | some i =>
  have h1:=e
  rw [List.findIdx?_eq_some_iff_getElem] at h1
  obtain ⟨hi,hp,_⟩:=h1
  exact ⟨i,xs[i],by simp [jL,e],List.getElem?_eq_getElem hi,hp⟩
theorem aJq {α:Type} {p:α->Bool} {xs:List α} (h:¬ 0<=jL p xs):jL p xs=-1:=by
 cases e:xs.findIdx? p with
 | none=>simp [jL,e]
 | some i=>simp [jL,e] at h
theorem e9 {o:List Ob} {K:SV->Prop} {n:Int}:dY o none (iD n) K=K (.d (.int .i64 n)):=by simp [iD,dY,D.noOwn]
theorem mG (v:List Int) (n:Int):v.any (fun x=>decide (n=x))=v.contains n:=by
 induction v with
 | nil=>rfl
 | cons a v ih=>simp only [List.any_cons,List.contains_cons,ih]; congr 1
end Go.Pe
