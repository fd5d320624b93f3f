/-
 A layer for walks of Go functions aDj their compact code (part D): data and where they lie,contracts,the operations,the walk of code. Own work,the same in every claim of this set.
-/
import Derived.Test.YtjmobminbckhjaaGreatDoorPeC
import Derived.ProofKit
import Derived.Deep.Slices
import Derived.Lib.AtoiErrMem
import Derived.RangeFuncNested
import Derived.RangeFuncCalls
import Derived.OrdersIn
import Derived.OwnWalkIn
open And renaming intro->aA
open Bool renaming and_eq_true->aC, true_or->aP
open Classical renaming choose_spec->aG
open Iff renaming rfl->aB
open List renaming nodup_append->aE, replicate->aF, mem_append->aH, append_assoc->aI, take_append_drop->aK, nodup_nil->aL, mem_of_getElem?->aM, any_cons->aN, set_cons_zero->aO, contains_cons->aQ, any_eq_false->aR, any_eq_true->aT, append_nil->aV, drop_drop->aX
open Nat renaming le_refl->aD, zero_le->aS, zero_add->aY
open Option renaming map_eq_some_iff->aJ, bind_some->aU, map_some->aW
namespace Go.Pe
open Go Go.RowKit
def kY {α:Type} (x:Option α) (K:α->Prop):Prop:=∃ y,x=some y/\K y
def kN (c:Prop) (K:Prop):Prop:=c/\K
def onI (k:IntKind) (n:Int) (K:SV->Prop):Prop:=(dW k n/\K (.d (.int k n)))\/K (.d (.int k (k.wrap n)))
theorem aNw {α:Type} {y:α} {K:α->Prop}:kY (some y) K=K y:=by simp [kY]
theorem cJ {K:Prop}:kN True K=K:=by simp [kN]
theorem cQ {c K:Prop} (h:c) (k:K):kN c K:=⟨h,k⟩
theorem fD {α:Type} {x:Option α} {K:α->Prop} (y:α) (h:x=some y) (k:K y):kY x K:=⟨y,h,k⟩
theorem cP {k:IntKind} {n:Int} {K:SV->Prop} (h:dW k n) (hk:K (.d (.int k n))):onI k n K:=.inl ⟨h,hk⟩
@[congr] theorem aTH {α : Type} {x x' : Option α} {K : α -> Prop} (h : x = x') : kY x K = kY x' K := by rw [h]
@[congr] theorem aTI {c c' : Prop} {K : Prop} (h : c = c') : kN c K = kN c' K := by rw [h]
@[congr] theorem aTB {k : IntKind} {n n' : Int} {K : SV -> Prop} (h : n = n') : onI k n K = onI k n' K := by rw [h]
def y5 (o:List Ob) (r:Nat):Option D:=match o[r]? with
 | some (.box z)=>some z
 | _=>none
def kP (o:List Ob) (r:Nat):Option D:=match o[r]? with
 | some (.val z)=>some z
 | _=>none
def aFX (o:List Ob) (r es:Nat):Option D:=match o[r]? with
 | some (.val (.sl true es' xs))=>if es'=es then some xs else none
 | _=>none
theorem jO {o:List Ob} {r:Nat} {z:D}:y5 o r=some z↔o[r]?=some (.box z):=by
 unfold y5; split
 ·rename_i h; rw [h]; simp
 ·rename_i h; constructor
  ·intro h; cases h
  ·intro h2; exact absurd h2 (h z)
theorem iB {o:List Ob} {r:Nat} {z:D}:kP o r=some z↔o[r]?=some (.val z):=by
 unfold kP; split
 ·rename_i h; rw [h]; simp
 ·rename_i h; constructor
  ·intro h; cases h
  ·intro h2; exact absurd h2 (h z)
theorem lQ {o:List Ob} {r es:Nat} {z:D}:aFX o r es=some z↔o[r]?=some (.val (.sl true es z)):=by
 unfold aFX; split
 ·rename_i es' xs h; rw [h]
  split
  ·rename_i e; subst e; simp
  ·rename_i e; simp [e]
 ·rename_i h; constructor
  ·intro h; cases h
  ·intro h2; exact absurd h2 (h _ _)
def aJM (o:List Ob) (r es:Nat):Option (Bool×D):=match o[r]? with
 | some (.val (.sl ow es' xs))=>if es'=es then some (ow,xs) else none
 | _=>none
theorem aEw {o:List Ob} {r es:Nat} {ow:Bool} {z:D}:aJM o r es=some (ow,z)↔o[r]?=some (.val (.sl ow es z)):=by
 unfold aJM; split
 ·rename_i ow' es' xs h; rw [h]
  split
  ·rename_i e; subst e; simp
  ·rename_i e; simp [e]
 ·rename_i h; constructor
  ·intro h; cases h
  ·intro h2; exact absurd h2 (h _ _ _)
section
variable {P : PG} {s : St} {o : List Ob} {E : Nat -> SV} {K : SV -> Prop} {KK : SV -> St -> Prop}
theorem aPE {mo:MO}:oL P s true mo KK=fZ P s mo KK:=propext aB
theorem aQd {mo:MO}:oL P s false mo KK=eZ P s.o (look s.e) mo fun sv=>KK sv s:=propext aB
theorem aKl {x:Opd}:eZ P o E (.mov x) K=K (iP E x):=propext aB
def uY (c a b:SV) (K:SV->Prop):Prop:=match c with
 | .d (.bool t)=>(t=true->K a)/\(t=false->K b)
 | _=>False
theorem aIx {c x y:Opd}:eZ P o E (.pick c x y) K=uY (iP E c) (iP E x) (iP E y) K:=propext aB
theorem aGS {a b:SV}:uY (.d (.bool true)) a b K=K a:=by simp [uY]
theorem aFo {a b:SV}:uY (.d (.bool false)) a b K=K b:=by simp [uY]
theorem cF {a b:SV} {t:Bool} (h1:t=true->K a) (h2:t=false->K b):uY (.d (.bool t)) a b K:=⟨h1,h2⟩
@[congr] theorem aOh {c c' a a' b b' : SV} (h : c = c') (h1 : a = a') (h2 : b = b') : uY c a b K = uY c' a' b' K := by rw [h, h1, h2]
theorem aLm {op:BinOp} {x y:Opd}:eZ P o E (.bin op x y) K=k0 op (iP E x) (iP E y) K:=propext aB
theorem aNM {op:BinOp} {x y:Opd}:eZ P o E (.bb op x y) K=u3 op (iP E x) (iP E y) K:=propext aB
theorem aM6 {op:BinOp} {x y:Opd}:eZ P o E (.ie op x y) K=t8 op (iP E x) (iP E y) K:=propext aB
theorem aNu {op:UnOp} {x:Opd}:eZ P o E (.un op x) K=uU op (iP E x) K:=propext aB
def aAE (x:SV) (K:SV->Prop):Prop:=match x with
 | .d (.ptr y)=>K (.d (.ptr y))
 | .ptr r off p=>K (.ptr r off p)
 | .el r es i off p=>K (.el r es i off p)
 | .d (.clo g xs)=>K (.d (.clo g xs))
 | _=>False
theorem aKQ {x:Opd}:eZ P o E (.nck x) K=aAE (iP E x) K:=propext aB
theorem aLA {agg:Option Nat} {x:Opd}:eZ P o E (.ld agg x) K=lI o agg (iP E x) K:=propext aB
theorem aNK {f off:Nat} {x:Opd}:eZ P o E (.fa f off x) K=dG f off (iP E x) K:=propext aB
theorem aLY {es:Nat} {x i:Opd}:eZ P o E (.ia es x i) K=q8 o es (iP E x) (iP E i) K:=propext aB
theorem aNg {x i:Opd}:eZ P o E (.ix x i) K=uB (iP E x) (iP E i) K:=propext aB
theorem aK2 {b:Bool} {x:Opd}:eZ P o E (.len b x) K=lD o b (iP E x) K:=propext aB
theorem aJ7 {x:Opd} {i:Nat}:eZ P o E (.ext x i) K=sK (iP E x) i K:=propext aB
theorem aIr {k:IntKind} {x:Opd}:eZ P o E (.conv k x) K=pL k (iP E x) K:=propext aB
theorem aK6 {x:Opd} {lo hi:Option Opd}:eZ P o E (.sls x lo hi) K=n6 (iP E x) (tV E lo) (tV E hi) K:=propext aB
theorem aNi {b:Bool} {x y:Opd}:eZ P o E (.mx b x y) K=xA b (iP E x) (iP E y) K:=propext aB
def evL (E:Nat->SV):List Opd->List SV
 | []=>[]
 | p :: ps=>iP E p :: evL E ps
theorem aIY (ps:List Opd):evL E ps=ps.map (iP E):=by
 induction ps with
 | nil=>rfl
 | cons p ps ih=>simp [evL,ih]
def aBf (P:PG) (o:List Ob) (f:FuncId) (as:List SV) (K:SV->Prop):Prop :=
 ∃ ds rs,iJ o as ds/\Fn P f ds (fun qs=>qs=rs)/\(as.all zQ=true\/rs.all D.allOwn=true)/\K (tL (rs.map D.unown))
theorem aG9 {f:FuncId} {args:List Opd}:eZ P o E (.callP f args) K=aBf P o f (evL E args) K:=by rw [aIY]; rfl
@[congr] theorem aOa {f : FuncId} {as as' : List SV} (h : as = as') : aBf P o f as K = aBf P o f as' K := by rw [h]
def lK (P:PG) (s:St) (f:FuncId) (args:List Opd) (as:List SV) (K:SV->St->Prop):Prop:=as=kK s.e args->fZ P s (.call f args) K
theorem aIF {f:FuncId} {args:List Opd}:fZ P s (.call f args) KK=lK P s f args (kK s.e args) KK:=propext ⟨fun h _=>h,fun h=>h rfl⟩
@[congr] theorem aPe {f : FuncId} {args : List Opd} {as as' : List SV} {s' : St} (h2 : s = s') (h : as = as') : lK P s f args as KK = lK P s' f args as' KK := by rw [h, h2]
def dI (o:List Ob):SV->Option D
 | .d x=>some x
 | .own r=>(kP o r).map D.unown
 | .vw r=>match y5 o r with
  | some (.st xs)=>some (.st xs.unown)
  | _=>none
 | _=>none
def dB (o:List Ob):List SV->Option (List D)
 | []=>some []
 | s :: ss=>match dI o s,dB o ss with
  | some x,some xs=>some (x :: xs)
  | _,_=>none
theorem aPJ {s:SV} {x:D} (h:dI o s=some x):aHv o s x:=by
 unfold dI at h
 split at h
 ·injection h with h; exact h.symm
 ·rename_i r
  obtain ⟨y,h1,h2⟩:=aJ.1 h
  exact ⟨y,iB.1 h1,h2.symm⟩
 ·rename_i r
  split at h
  ·rename_i xs h1
   injection h with h
   exact ⟨xs,jO.1 h1,h.symm⟩
  ·cases h
 ·cases h
theorem m6:∀ {ss:List SV} {xs:List D},dB o ss=some xs->iJ o ss xs
 | [],xs,h=>by injection h with h; exact h.symm
 | s :: ss,xs,h=>by
  unfold dB at h
  split at h
  ·rename_i x ys h1 h2
   injection h with h
   exact ⟨x,ys,h.symm,aPJ h1,m6 h2⟩
  ·cases h
theorem cM {f:FuncId} {as:List SV} {ds rs:List D} (hf:Fn P f ds (fun qs=>qs=rs)) (ha:dB o as=some ds) (hd:(as.all zQ || rs.all D.allOwn)=true) (hk:K (tL (rs.map D.unown))):aBf P o f as K :=
 ⟨ds,rs,m6 ha,hf,by simpa using hd,hk⟩
theorem cI {f:FuncId} {args:List Opd} {as:List SV} {ds rs:List D} (hf:Fn P f ds (fun qs=>qs=rs)) (ha:dB s.o as=some ds) (hd:(as.all zQ || rs.all D.allOwn)=true) (hk:KK (mW (dV rs s.o).1) ⟨s.e,(dV rs s.o).2⟩):lK P s f args as KK:=by
 intro e
 subst e
 exact ⟨_,_,j5.refl s,fun _=>.inl ⟨ds,_,m6 ha,hf,fun qs h=>by subst h; exact ⟨by simpa using hd,hk⟩⟩⟩
theorem lT {f:FuncId} {args:List Opd} {as:List SV} {ds:List D} {R:List D->Prop} (hf:Fn P f ds R) (ha:dB s.o as=some ds) (hk:∀ rs,R rs->(as.all zQ=true\/rs.all D.allOwn=true)/\KK (mW (dV rs s.o).1) ⟨s.e,(dV rs s.o).2⟩):lK P s f args as KK:=by
 intro e
 subst e
 exact ⟨_,_,j5.refl s,fun _=>.inl ⟨ds,R,m6 ha,hf,hk⟩⟩
theorem mN {f:FuncId} {args:List Opd} {bx:Bool} {r:Nat} {ss:List SV} {x y:D} {ds rs:List D} (hf:y7 P f bx x ds (fun x' qs=>x'=y/\qs=rs)) (hor:s.o[r]?=some (i7 bx x)) (ha:dB s.o ss=some ds) (hd:ss.all zQ=true)
  (hk:KK (mW (dV rs (s.o.set r (i7 bx y))).1) ⟨mX (gH r) s.e,(dV rs (s.o.set r (i7 bx y))).2⟩):lK P s f args (kX bx r :: ss) KK:=by
 intro e
 refine ⟨_,_,j5.refl s,fun _=>.inr (.inl ⟨bx,r,x,ss,ds,_,e.symm,hor,m6 ha,hd,hf,?_⟩)⟩
 rintro x' rs' ⟨rfl,rfl⟩
 exact hk
theorem k9 {f:FuncId} {args:List Opd} {bx:Bool} {r:Nat} {ss:List SV} {x:D} {ds:List D} {R:D->List D->Prop} (hf:y7 P f bx x ds R) (hor:s.o[r]?=some (i7 bx x)) (ha:dB s.o ss=some ds) (hd:ss.all zQ=true)
  (hk:∀ y rs,R y rs->KK (mW (dV rs (s.o.set r (i7 bx y))).1) ⟨mX (gH r) s.e,(dV rs (s.o.set r (i7 bx y))).2⟩):lK P s f args (kX bx r :: ss) KK:=by
 intro e
 exact ⟨_,_,j5.refl s,fun _=>.inr (.inl ⟨bx,r,x,ss,ds,R,e.symm,hor,m6 ha,hd,hf,hk⟩)⟩
theorem aBF {f:FuncId} {args:List Opd} {as:List SV} (h:tN s.o as fun ds=>∃ R,Fn P f ds R/\∀ rs,R rs->rs.all D.allOwn=true/\KK (mW (dV rs s.o).1) ⟨s.e,(dV rs s.o).2⟩):lK P s f args as KK:=by
 intro e
 subst e
 exact ⟨_,_,j5.refl s,fun _=>.inr (.inr (.inl (.inl h)))⟩
theorem aTk {f:FuncId} {args:List Opd} {as:List SV} {ds:List D} {L:List (Value×Nat×D)} {R:List D->Prop} (hf:FnL P f L ds R) (ha:dB s.o as=some ds) (hL:qN s.o L) (hk:∀ rs,R rs->rs.all D.allOwn=true/\KK (mW (dV rs s.o).1) ⟨s.e,(dV rs s.o).2⟩):lK P s f args as KK:=by
 intro e
 subst e
 exact ⟨_,_,j5.refl s,fun _=>.inr (.inr (.inl (.inr (.inl ⟨ds,L,R,m6 ha,hL,hf,hk⟩))))⟩
theorem aHT {f:FuncId} {args:List Opd} {r:Nat} {ss:List SV} {xs:D} {ds:List D} {R:D->List D->Prop} (hf:y7 P f false (.st xs) ds R) (hor:s.o[r]?=some (.box (.st xs))) (ha:dB s.o ss=some ds) (hd:ss.all zQ=true)
  (hk:∀ y rs,R y rs->KK (mW (dV rs (s.o.set r (.box y))).1) ⟨mX (gH r) s.e,(dV rs (s.o.set r (.box y))).2⟩):lK P s f args (.vw r :: ss) KK:=by
 intro e
 exact ⟨_,_,j5.refl s,fun _=>.inr (.inr (.inr ⟨r,xs,ss,ds,R,e.symm,hor,m6 ha,hd,hf,hk⟩))⟩
theorem xH {f:FuncId} {args:List Opd} {r:Nat} {ss:List SV} {xs y:D} {ds rs:List D} (hf:y7 P f false (.st xs) ds (fun x' qs=>x'=y/\qs=rs)) (hor:s.o[r]?=some (.box (.st xs))) (ha:dB s.o ss=some ds) (hd:ss.all zQ=true)
  (hk:KK (mW (dV rs (s.o.set r (.box y))).1) ⟨mX (gH r) s.e,(dV rs (s.o.set r (.box y))).2⟩):lK P s f args (.vw r :: ss) KK :=
 aHT hf hor ha hd (by rintro y' rs' ⟨rfl,rfl⟩; exact hk)
theorem aGp {f:FuncId} {args:List Opd} {as:List SV} (q:Nat) (h:lK P (aFF q s) f args (kK (aFF q s).e args) KK):lK P s f args as KK:=by
 intro _
 obtain ⟨α,S,hS,h⟩:=h rfl
 exact ⟨_,_,(aWX q s).sig fun _=>hS,fun u=>h u.2⟩
theorem aJJ {f:FuncId} {args:List Opd} {as:List SV} {α:Type} (S:α->St) (hk:j5 s S) (h:∀ x,lK P (S x) f args (kK (S x).e args) KK):lK P s f args as KK:=by
 intro _
 have hx:∀ x,∃ (β:Type) (T:β->St),j5 (S x) T/\∀ u,aRK P (T u) f (kK (T u).e args) KK\/aQD P (T u) f (kK (T u).e args) KK\/aQ1 P (T u) f (kK (T u).e args) KK\/aNh P (T u) f (kK (T u).e args) KK:=fun x=>h x rfl
 exact ⟨_,_,hk.sig fun x=>aG (aG (hx x)) |>.1,fun u=>(aG (aG (hx u.1))).2 u.2⟩
theorem aOu {k:IntKind} {a b:Int}:iL .add k a b K=onI k (a + b) K:=propext aB
theorem aO2 {k:IntKind} {a b:Int}:iL .sub k a b K=onI k (a - b) K:=propext aB
theorem aP5 {k:IntKind} {a b:Int}:iL .mul k a b K=onI k (a * b) K:=propext aB
theorem aPo {k:IntKind} {a b:Int}:iL .quo k a b K=kN (b≠0) (onI k (a.tdiv b) K):=propext aB
theorem aPB {k:IntKind} {a b:Int}:iL .rem k a b K=kN (b≠0) (K (.d (.int k (a.tmod b)))):=propext aB
theorem aPs {k:IntKind} {a b:Int}:iL .and k a b K=K (.d (.int k (bits .and k a b))):=propext aB
theorem aSE {k:IntKind} {a b:Int}:iL .or k a b K=K (.d (.int k (bits .or k a b))):=propext aB
theorem aQe {k:IntKind} {a b:Int}:iL .xor k a b K=K (.d (.int k (bits .xor k a b))):=propext aB
theorem aOW {k:IntKind} {a b:Int}:iL .eql k a b K=K (.d (.bool (decide (a=b)))):=propext aB
theorem aQi {k:IntKind} {a b:Int}:iL .neq k a b K=K (.d (.bool (!decide (a=b)))):=propext aB
theorem aPc {k:IntKind} {a b:Int}:iL .lss k a b K=K (.d (.bool (decide (a < b)))):=propext aB
theorem aOP {k:IntKind} {a b:Int}:iL .leq k a b K=K (.d (.bool (decide (a<=b)))):=propext aB
theorem aQp {k:IntKind} {a b:Int}:iL .gtr k a b K=K (.d (.bool (decide (b < a)))):=propext aB
theorem aQk {k:IntKind} {a b:Int}:iL .geq k a b K=K (.d (.bool (decide (b<=a)))):=propext aB
theorem aQb {op:BinOp} {k:IntKind} {a b:Int}:k0 op (.d (.int k a)) (.d (.int k b)) K=iL op k a b K:=by simp [k0]
theorem aPb {op:BinOp} {a b:List UInt8}:k0 op (.d (.str a)) (.d (.str b)) K=qK op a b K:=propext aB
theorem aON {a b:List UInt8}:qK .add a b K=kN (a.length + b.length<=9223372036854775807) (K (.d (.str (a ++ b)))):=propext aB
theorem aPf {a b:List UInt8}:qK .eql a b K=K (.d (.bool (decide (a=b)))):=propext aB
theorem aOM {a b:List UInt8}:qK .neq a b K=K (.d (.bool (!decide (a=b)))):=propext aB
theorem aPh {a b:List UInt8}:qK .lss a b K=K (.d (.bool (Op.bytesLess a b))):=propext aB
theorem aS2 {a b:Bool}:u3 .eql (.d (.bool a)) (.d (.bool b)) K=K (.d (.bool (a == b))):=propext aB
theorem aSb {a b:Bool}:u3 .neq (.d (.bool a)) (.d (.bool b)) K=K (.d (.bool (!(a == b)))):=propext aB
theorem aTt {a:Bool}:t8 .eql (.d (.err a)) (.d (.err true)) K=K (.d (.bool a)):=propext aB
theorem aSP {a:Bool}:t8 .neq (.d (.err a)) (.d (.err true)) K=K (.d (.bool (!a))):=propext aB
theorem aSA {b:Bool}:uU .not (.d (.bool b)) K=K (.d (.bool (!b))):=propext aB
theorem aSi {k:IntKind} {n:Int}:uU .neg (.d (.int k n)) K=onI k (-n) K:=propext aB
theorem aOK {k k':IntKind} {n:Int}:pL k (.d (.int k' n)) K=onI k n K:=propext aB
theorem aUt {k k':IntKind} {b:Bool} {n m:Int}:xA b (.d (.int k n)) (.d (.int k' m)) K=K (.d (.int k (if b then max n m else min n m))):=propext aB
theorem aPA {a:List UInt8}:lD o true (.d (.str a)) K=K (.d (.int .i64 a.length)):=propext aB
theorem aSh {ow:Bool} {es:Nat} {xs:D}:lD o false (.d (.sl ow es xs)) K=K (.d (.int .i64 xs.len)):=propext aB
theorem aOU:lD o false .nil K=K (.d (.int .i64 0)):=propext aB
def lenOf (o:List Ob) (r:Nat):Option Nat:=match kP o r with
 | some (.sl _ _ xs)=>some xs.len
 | _=>none
theorem aO7 {r:Nat}:lD o false (.own r) K=kY (lenOf o r) fun n=>K (.d (.int .i64 n)):=by
 apply propext
 simp only [lD,kY,lenOf]
 constructor
 ·rintro ⟨es,xs,ow,h,hk⟩
  exact ⟨xs.len,by rw [iB.2 h],hk⟩
 ·rintro ⟨n,h,hk⟩
  split at h
  ·rename_i ow es xs h1
   injection h with h
   subst h
   exact ⟨es,xs,ow,iB.1 h1,hk⟩
  ·cases h
theorem aT2 {b:List UInt8} {k:IntKind} {n:Int}:uB (.d (.str b)) (.d (.int k n)) K=kN (0<=n) (kY (b[n.toNat]?) fun u=>K (.d (.int .u8 (u.toNat:Int)))):=by
 apply propext
 simp only [uB,kN,kY]
 constructor
 ·rintro ⟨u,h1,h2,h3⟩; exact ⟨h1,u,h2,h3⟩
 ·rintro ⟨h1,u,h2,h3⟩; exact ⟨u,h1,h2,h3⟩
theorem aV9 {es es':Nat} {ow:Bool} {xs:D} {k:IntKind} {n:Int}:q8 o es (.d (.sl ow es' xs)) (.d (.int k n)) K=kN (es'=es) (kN (0<=n) (kY (xs.nth n.toNat) fun y=>K (.d (.ptr y)))):=by
 apply propext
 simp only [q8,kN,kY]
 constructor
 ·rintro ⟨h,u,h1,h2,h3⟩; exact ⟨h,h1,u,h2,h3⟩
 ·rintro ⟨h,h1,u,h2,h3⟩; exact ⟨h,u,h1,h2,h3⟩
theorem aSD {r es:Nat} {k:IntKind} {n:Int}:q8 o es (.own r) (.d (.int k n)) K=kY (aJM o r es) fun p=>kN (0<=n) (kY (p.2.nth n.toNat) fun y=>K (elS p.1 r es n.toNat y)):=by
 apply propext
 simp only [q8,kN,kY]
 constructor
 ·rintro ⟨ow,xs,y,h1,h2,h3,h4⟩; exact ⟨(ow,xs),aEw.2 h1,h2,y,h3,h4⟩
 ·rintro ⟨⟨ow,xs⟩,h1,h2,y,h3,h4⟩; exact ⟨ow,xs,y,aEw.1 h1,h2,h3,h4⟩
theorem aSO {k:IntKind} {n:Int}:eU o none (.int k n) K=K (.d (.int k n)):=by simp [eU,D.noOwn]
theorem aP8 {b:Bool}:eU o none (.bool b) K=K (.d (.bool b)):=by simp [eU,D.noOwn]
theorem aLV {b:List UInt8}:eU o none (.str b) K=K (.d (.str b)):=by simp [eU,D.noOwn]
theorem aTu {b:Bool}:eU o none (.err b) K=K (.d (.err b)):=by simp [eU,D.noOwn]
theorem aVA {b:Bool} {es:Nat} {xs:D}:eU o none (.sl b es xs) K=kN ((D.sl b es xs).noOwn=true) (K (.d (.sl b es xs))):=propext aB
def aJH (o:List Ob) (q:Nat):Option (Nat×Value):=match o[q]? with
 | some (.tag r v)=>some (r,v)
 | _=>none
theorem aDM {o:List Ob} {q r:Nat} {v:Value}:aJH o q=some (r,v)↔o[q]?=some (.tag r v):=by
 unfold aJH
 constructor
 ·intro h
  split at h
  ·rename_i r' v' h1; injection h with h; injection h with h2 h3; subst h2 h3; exact h1
  ·cases h
 ·intro h; rw [h]
theorem aSk {q:Nat} {v:Value}:eU o none (.lnk q v) K=kY (aJH o q) fun p=>kN (p.2=v) (K (.own p.1)):=by
 apply propext
 simp only [eU,kY,kN]
 constructor
 ·rintro ⟨r,h1,h2⟩; exact ⟨(r,v),aDM.2 h1,rfl,h2⟩
 ·rintro ⟨⟨r,v'⟩,h1,h2,h3⟩; simp only at h2 h3; subst h2; exact ⟨r,aDM.1 h1,h3⟩
theorem aT1 {n:Nat} {xs:D}:eU o (some n) (.st xs) K=kN (xs.size=n) (kN (xs.noOwn=true) (K (.d (.st xs)))):=propext aB
theorem aVZ {agg:Option Nat} {y:D}:lI o agg (.d (.ptr y)) K=eU o agg y K:=propext aB
theorem aST {agg:Option Nat} {r off:Nat} {p:List Nat}:lI o agg (.ptr r off p) K=kY (y5 o r) fun z=>kN (fL p z=off) (kY (gU p z) fun y=>eU o agg y K):=by
 apply propext
 simp only [lI,kN,kY]
 constructor
 ·rintro ⟨z,h1,h2,h3⟩; exact ⟨z,jO.2 h1,h2,h3⟩
 ·rintro ⟨z,h1,h2,h3⟩; exact ⟨z,jO.1 h1,h2,h3⟩
theorem aU4 {agg:Option Nat} {r es i off:Nat} {p:List Nat}:lI o agg (.el r es i off p) K=kY (aFX o r es) fun xs=>kY (xs.nth i) fun z=>kN (fL p z=off) (kY (gU p z) fun y=>eU o agg y K):=by
 apply propext
 simp only [lI,kN,kY]
 constructor
 ·rintro ⟨xs,z,h1,h2,h3,h4⟩; exact ⟨xs,lQ.2 h1,z,h2,h3,h4⟩
 ·rintro ⟨xs,h1,z,h2,h3,h4⟩; exact ⟨xs,z,lQ.1 h1,h2,h3,h4⟩
theorem aV8 {f off:Nat} {xs:D}:dG f off (.d (.ptr (.st xs))) K=kN (xs.pre f=off) (kY (xs.nth f) fun y=>K (.d (.ptr y))):=propext aB
theorem aTj {f off r off':Nat} {p:List Nat}:dG f off (.ptr r off' p) K=K (.ptr r (off' + off) (p ++ [f])):=propext aB
theorem aU3 {f off r es i off':Nat} {p:List Nat}:dG f off (.el r es i off' p) K=K (.el r es i (off' + off) (p ++ [f])):=propext aB
theorem aS4 {xs:List SV} {i:Nat}:sK (.tup xs) i K=kY xs[i]? K:=propext aB
def onT (t:Option (D×List Ob×List Nat)) (K:D->List Ob->List Nat->Prop):Prop:=∃ x,t=some x/\K x.1 x.2.1 x.2.2
@[congr] theorem aTC {t t' : Option (D × List Ob × List Nat)} {K : D -> List Ob -> List Nat -> Prop} (h : t = t') : onT t K = onT t' K := by rw [h]
theorem aTx {x:D} {K:D->List Ob->List Nat->Prop}:mS o (.d x) K=K x o []:=propext aB
theorem aMo {r:Nat} {K:D->List Ob->List Nat->Prop}:mS o (.own r) K=kY (kP o r) fun x=>K x (o.set r .dead) [r]:=by
 apply propext
 simp only [mS,kY]
 constructor
 ·rintro ⟨x,h1,h2⟩; exact ⟨x,iB.2 h1,h2⟩
 ·rintro ⟨x,h1,h2⟩; exact ⟨x,iB.1 h1,h2⟩
def aG7 (o:List Ob) (r:Nat):Option D:=match y5 o r with
 | some (.st xs)=>some xs
 | _=>none
theorem rS {r:Nat} {z:D}:aG7 o r=some z↔o[r]?=some (.box (.st z)):=by
 unfold aG7; split
 ·rename_i h; rw [jO] at h; rw [h]; simp
 ·rename_i h; constructor
  ·intro h; cases h
  ·intro h2; exact absurd (jO.2 h2) (h z)
theorem aOZ {r:Nat} {K:D->List Ob->List Nat->Prop}:mS o (.vw r) K=kY (aG7 o r) fun xs=>K (.st xs) (o.set r .dead) [r]:=by
 apply propext
 simp only [mS,kY]
 constructor
 ·rintro ⟨x,h1,h2⟩; exact ⟨x,rS.2 h1,h2⟩
 ·rintro ⟨x,h1,h2⟩; exact ⟨x,rS.1 h1,h2⟩
theorem aKC {r off:Nat} {p:List Nat} {y:D} {K:List Ob->Nat->Prop}:sQ o (.ptr r off p) y K=kY (y5 o r) fun z=>kN (fL p z=off) (kY (gU p z) fun u=>kN (y.size=u.size) (K (o.set r (.box (kG p z y))) r)):=by
 apply propext
 simp only [sQ,kY,kN]
 constructor
 ·rintro ⟨z,u,h1,h2,h3,h4,h5⟩; exact ⟨z,jO.2 h1,h2,u,h3,h4,h5⟩
 ·rintro ⟨z,h1,h2,u,h3,h4,h5⟩; exact ⟨z,u,jO.1 h1,h2,h3,h4,h5⟩
theorem aNv {r es i off:Nat} {p:List Nat} {y:D} {K:List Ob->Nat->Prop}:sQ o (.el r es i off p) y K=kY (aFX o r es) fun xs=>kY (xs.nth i) fun z=>kN (fL p z=off) (kY (gU p z) fun u=>kN (y.size=u.size) (K (o.set r (.val (.sl true es (xs.setN i (kG p z y))))) r)):=by
 apply propext
 simp only [sQ,kY,kN]
 constructor
 ·rintro ⟨xs,z,u,h1,h2,h3,h4,h5,h6⟩; exact ⟨xs,lQ.2 h1,z,h2,h3,u,h4,h5,h6⟩
 ·rintro ⟨xs,h1,z,h2,h3,u,h4,h5,h6⟩; exact ⟨xs,z,u,lQ.1 h1,h2,h3,h4,h5,h6⟩
theorem aUd {x:Opd}:fZ P s (.box x) KK=mS s.o (n9 s.e x) fun y o1 kr=>kN (y.isV=true) (KK (.ptr o1.length 0 []) ⟨fU kr s.e,o1 ++ [.box y]⟩):=propext aB
theorem aP7 {z:D}:fZ P s (.alloc z) KK=KK (.ptr s.o.length 0 []) ⟨s.e,s.o ++ [.box z]⟩:=propext aB
theorem aVT {n:Nat} {x v:Opd}:fZ P s (.st n x v) KK=mS s.o (n9 s.e v) fun y o1 kr=>kN (y.isV=true) (kN (y.size=n) (kN (kr.all (fun r=>!fW r (n9 s.e x))=true) (sQ o1 (n9 s.e x) y fun o2 r=>KK .undef ⟨mX (gH r) (fU kr s.e),o2⟩))):=propext aB
theorem aUT {es bytes:Nat} {x y:Opd}:fZ P s (.app es bytes x y) KK=aEO es bytes s.o (n9 s.e x) (n9 s.e y) fun sv o2 kr kk=>KK sv ⟨uP kk (fU kr s.e),o2⟩:=propext aB
theorem aV2 {es len:Nat} {z:D} {ps:List (Nat×Opd)}:fZ P s (.bs es len z ps) KK=g9 s.o (jC (aF len z)) (mK s.e ps) fun xs o1 kr=>KK (.own o1.length) ⟨fU kr s.e,o1 ++ [.val (.sl true es xs)]⟩:=propext aB
def aGV (s:St) (xs:D) (o1:List Ob) (kr:List Nat) (b:Bool) (KK:SV->St->Prop):Prop:=if b then KK (.d (.st xs)) ⟨fU kr s.e,o1⟩ else KK (.own o1.length) ⟨fU kr s.e,o1 ++ [.val (.st xs)]⟩
theorem aUo {z:D} {ps:List (Nat×Opd)}:fZ P s (.bld z ps) KK=g9 s.o z (mK s.e ps) fun xs o1 kr=>aGV s xs o1 kr xs.noOwn KK:=propext aB
@[congr] theorem aQH {xs xs' : D} {o1 o1' : List Ob} {kr : List Nat} {b b' : Bool} (h1 : xs = xs') (h2 : o1 = o1') (h3 : b = b') : aGV s xs o1 kr b KK = aGV s xs' o1' kr b' KK := by rw [h1, h2, h3]
theorem aOs {xs:D} {o1:List Ob} {kr:List Nat}:aGV s xs o1 kr true KK=KK (.d (.st xs)) ⟨fU kr s.e,o1⟩:=propext aB
theorem aPq {xs:D} {o1:List Ob} {kr:List Nat}:aGV s xs o1 kr false KK=KK (.own o1.length) ⟨fU kr s.e,o1 ++ [.val (.st xs)]⟩:=propext aB
def aQx (s:St) (es bytes:Nat) (z:D) (n:SV) (KK:SV->St->Prop):Prop:=match n with
 | .d (.int _ m)=>(0<=m/\(bytes:Int) * m<=281474976710656/\m<=9223372036854775807)/\KK (.own s.o.length) ⟨s.e,s.o ++ [.val (.sl true es (jC (aF m.toNat z)))]⟩
 | _=>False
theorem aVR {es bytes:Nat} {z:D} {n:Opd}:fZ P s (.mk es bytes z n) KK=aQx s es bytes z (n9 s.e n) KK:=propext aB
theorem aSq {es bytes:Nat} {z:D} {k:IntKind} {m:Int}:aQx s es bytes z (.d (.int k m)) KK=kN (0<=m/\(bytes:Int) * m<=281474976710656/\m<=9223372036854775807) (KK (.own s.o.length) ⟨s.e,s.o ++ [.val (.sl true es (jC (aF m.toNat z)))]⟩):=propext aB
theorem aLe {xs:D} {K:D->List Ob->List Nat->Prop}:g9 o xs [] K=K xs o []:=propext aB
theorem wU {xs:D} {i:Nat} {sv:SV} {ps:List (Nat×SV)} {K:D->List Ob->List Nat->Prop}:g9 o xs ((i,sv) :: ps) K=mS o sv fun y o1 kr=>kY (xs.nth i) fun u=>kN (y.size=u.size) (kN (y.isV=true) (g9 o1 (xs.setN i y) ps fun xs' o2 kr'=>K xs' o2 (kr ++ kr'))):=by
 apply propext
 have e:g9 o xs ((i,sv) :: ps) K=mS o sv fun y o1 kr=>∃ u,xs.nth i=some u/\y.size=u.size/\y.isV=true/\g9 o1 (xs.setN i y) ps fun xs' o2 kr'=>K xs' o2 (kr ++ kr'):=rfl
 rw [e]; exact aB
theorem aMu {es bytes:Nat} {ys:D} {kr:List Nat} {K:SV->List Ob->List Nat->Option Nat->Prop}:rK es bytes o .nil ys kr K=kN (ys.len * bytes<=140737488355328/\ys.len<=9223372036854775807) (K (.own o.length) (o ++ [.val (.sl true es ys)]) kr none):=propext aB
theorem aNN {es bytes r:Nat} {ys:D} {kr:List Nat} {K:SV->List Ob->List Nat->Option Nat->Prop}:rK es bytes o (.own r) ys kr K=kY (aFX o r es) fun xs=>kN ((xs.len + ys.len) * bytes<=140737488355328/\xs.len + ys.len<=9223372036854775807) (K (.own r) ((unT r o).set r (.val (.sl true es (xs.app ys)))) kr (some r)):=by
 apply propext
 simp only [rK,kY,kN]
 constructor
 ·rintro ⟨xs,h1,h2,h3⟩; exact ⟨xs,lQ.2 h1,h2,h3⟩
 ·rintro ⟨xs,h1,h2,h3⟩; exact ⟨xs,lQ.1 h1,h2,h3⟩
theorem aTA {es es' bytes:Nat} {x:SV} {ow:Bool} {ys:D} {K:SV->List Ob->List Nat->Option Nat->Prop}:aEO es bytes o x (.d (.sl ow es' ys)) K=kN (es'=es) (rK es bytes o x ys [] K):=propext aB
theorem aLP {es bytes:Nat} {x:SV} {K:SV->List Ob->List Nat->Option Nat->Prop}:aEO es bytes o x .nil K=rK es bytes o x .nil [] K:=propext aB
def aGD (es bytes:Nat) (o:List Ob) (x:SV) (q:Nat) (ys:D) (b:Bool) (K:SV->List Ob->List Nat->Option Nat->Prop):Prop:=if b then rK es bytes o x ys [] K else rK es bytes (o.set q .dead) x ys [q] K
theorem aNb {es bytes q:Nat} {x:SV} {K:SV->List Ob->List Nat->Option Nat->Prop}:aEO es bytes o x (.own q) K=kY (aFX o q es) fun ys=>kN (x≠.own q) (aGD es bytes o x q ys ys.noOwn K):=by
 apply propext
 simp only [aEO,kY,kN]
 constructor
 ·rintro ⟨xs,h1,h2,h3⟩; exact ⟨xs,lQ.2 h1,h2,h3⟩
 ·rintro ⟨xs,h1,h2,h3⟩; exact ⟨xs,lQ.1 h1,h2,h3⟩
@[congr] theorem aQB {es bytes q : Nat} {x : SV} {ys ys' : D} {b b' : Bool} {K : SV -> List Ob -> List Nat -> Option Nat -> Prop} (h1 : ys = ys') (h3 : b = b') : aGD es bytes o x q ys b K = aGD es bytes o x q ys' b' K := by rw [h1, h3]
theorem aOm {es bytes q:Nat} {x:SV} {ys:D} {K:SV->List Ob->List Nat->Option Nat->Prop}:aGD es bytes o x q ys true K=rK es bytes o x ys [] K:=propext aB
theorem aPp {es bytes q:Nat} {x:SV} {ys:D} {K:SV->List Ob->List Nat->Option Nat->Prop}:aGD es bytes o x q ys false K=rK es bytes (o.set q .dead) x ys [q] K:=propext aB
theorem aUW {e:i8} {t:Nat} {r:List ResultVar} {K:List D->Prop}:gQ e o (.tmp t :: r) K=mS o (look e t) fun x o1 _=>gQ e o1 r fun xs=>K (x :: xs):=propext aB
theorem aOn {e:i8} {K:List D->Prop}:gQ e o [] K=K []:=propext aB
def xF (o:List Ob) (sv:SV) (K:D->List Ob->Prop):Prop:=match sv with
 | .ptr q 0 []=>kY (aG7 o q) fun xs=>K (.st xs) (o.set q .dead)
 | _=>False
theorem aUa {e:i8} {t ty:Nat} {r:List ResultVar} {K:List D->Prop}:gQ e o (.cell t ty :: r) K=xF o (look e t) fun x o1=>gQ e o1 r fun ys=>K (x :: ys):=by
 apply propext
 have e1:gQ e o (.cell t ty :: r) K=match look e t with
  | .ptr q 0 []=>∃ xs,o[q]?=some (.box (.st xs))/\gQ e (o.set q .dead) r fun ys=>K (.st xs :: ys)
  | _=>False:=rfl
 rw [e1]
 unfold xF
 split
 ·simp only [kY,rS]
 ·exact aB
theorem aMi {q:Nat} {K:D->List Ob->Prop}:xF o (.ptr q 0 []) K=kY (aG7 o q) fun xs=>K (.st xs) (o.set q .dead):=propext aB
def aHq (P:Program) (rvs:List ResultVar) (R:List D->Prop) (s:St):Prop:=kN (fQ P s.e s.o rvs) (gQ s.e s.o rvs R)
@[congr] theorem aQ4 {P : Program} {rvs : List ResultVar} {R : List D -> Prop} {s' : St} (h : s = s') : aHq P rvs R s = aHq P rvs R s' := by rw [h]
theorem aU0 {P:Program} {rvs:List ResultVar} {R:List D->Prop}:aGl P rvs R .normal s=aHq P rvs R s:=propext aB
theorem aTL {P:Program} {rvs:List ResultVar} {R:List D->Prop}:aGl P rvs R .ret s=aHq P rvs R s:=propext aB
theorem aPR {P:Program} {rvs:List ResultVar} {R:List D->Prop}:aHq P rvs R s=kN (fQ P s.e s.o rvs) (gQ s.e s.o rvs R):=propext aB
theorem aSB {e:i8} {t:Nat} {r:List ResultVar} {K:List D->List Ob->Prop}:fY e o (.tmp t :: r) K=mS o (look e t) fun x o1 _=>fY e o1 r fun xs o2=>K (x :: xs) o2:=propext aB
theorem aLw {e:i8} {K:List D->List Ob->Prop}:fY e o [] K=K [] o:=propext aB
theorem aTi {e:i8} {t ty:Nat} {r:List ResultVar} {K:List D->List Ob->Prop}:fY e o (.cell t ty :: r) K=xF o (look e t) fun x o1=>fY e o1 r fun ys o2=>K (x :: ys) o2:=by
 apply propext
 have e1:fY e o (.cell t ty :: r) K=match look e t with
  | .ptr q 0 []=>∃ xs,o[q]?=some (.box (.st xs))/\fY e (o.set q .dead) r fun ys o2=>K (.st xs :: ys) o2
  | _=>False:=rfl
 rw [e1]
 unfold xF
 split
 ·simp only [kY,rS]
 ·exact aB
def aHf (bx:Bool) (o:List Ob) (K:D->Prop):Prop:=∃ x',o[0]?=some (i7 bx x')/\K x'
theorem aSV {K:D->Prop}:aHf false o K=kY (kP o 0) K:=by
 apply propext
 simp only [aHf,kY,i7]
 exact ⟨fun ⟨x,h,k⟩=>⟨x,iB.2 h,k⟩,fun ⟨x,h,k⟩=>⟨x,iB.1 h,k⟩⟩
theorem aTf {K:D->Prop}:aHf true o K=kY (y5 o 0) K:=by
 apply propext
 simp only [aHf,kY,i7]
 exact ⟨fun ⟨x,h,k⟩=>⟨x,jO.2 h,k⟩,fun ⟨x,h,k⟩=>⟨x,jO.1 h,k⟩⟩
@[congr] theorem aTl {bx : Bool} {o' : List Ob} {K : D -> Prop} (h : o = o') : aHf bx o K = aHf bx o' K := by rw [h]
@[congr] theorem aMz {e e' : i8} {o' : List Ob} {rs : List ResultVar} {K : List D -> List Ob -> Prop} (he : e = e') (h : o = o') : fY e o rs K = fY e' o' rs K := by rw [h, he]
def aC2 (P:Program) (rvs:List ResultVar) (bx:Bool) (R:D->List D->Prop) (s:St):Prop:=kN (fQ P s.e s.o rvs) (kN (look s.e 0=kX bx 0) (fY s.e s.o rvs fun rs o2=>aHf bx o2 fun x'=>R x' rs))
@[congr] theorem aPd {P : Program} {rvs : List ResultVar} {bx : Bool} {R : D -> List D -> Prop} {s' : St} (h : s = s') : aC2 P rvs bx R s = aC2 P rvs bx R s' := by rw [h]
theorem aSz {P:Program} {rvs:List ResultVar} {bx:Bool} {R:D->List D->Prop}:aHd P rvs bx R .normal s=aC2 P rvs bx R s:=propext aB
theorem aSe {P:Program} {rvs:List ResultVar} {bx:Bool} {R:D->List D->Prop}:aHd P rvs bx R .ret s=aC2 P rvs bx R s:=propext aB
theorem aNl {P:Program} {rvs:List ResultVar} {bx:Bool} {R:D->List D->Prop}:aC2 P rvs bx R s=kN (fQ P s.e s.o rvs) (kN (look s.e 0=kX bx 0) (fY s.e s.o rvs fun rs o2=>aHf bx o2 fun x'=>R x' rs)):=propext aB
end
@[congr] theorem aQK {o o' : List Ob} {s s' : SV} {K : D -> List Ob -> List Nat -> Prop} (ho : o = o') (hs : s = s') : mS o s K = mS o' s' K := by rw [ho, hs]
@[congr] theorem aPv {o o' : List Ob} {x x' : SV} {y y' : D} {K : List Ob -> Nat -> Prop} (ho : o = o') (hx : x = x') (hy : y = y') : sQ o x y K = sQ o' x' y' K := by rw [ho, hx, hy]
@[congr] theorem aLu {o o' : List Ob} {xs xs' : D} {ps ps' : List (Nat × SV)} {K : D -> List Ob -> List Nat -> Prop} (ho : o = o') (hxs : xs = xs') (hps : ps = ps') : g9 o xs ps K = g9 o' xs' ps' K := by rw [ho, hxs, hps]
@[congr] theorem aSu {es : Nat} {bytes : Nat} {o o' : List Ob} {x x' : SV} {y y' : SV} {K : SV -> List Ob -> List Nat -> Option Nat -> Prop} (ho : o = o') (hx : x = x') (hy : y = y') : aEO es bytes o x y K = aEO es bytes o' x' y' K := by rw [ho, hx, hy]
@[congr] theorem aTm {es : Nat} {bytes : Nat} {o o' : List Ob} {x x' : SV} {ys ys' : D} {kr kr' : List Nat} {K : SV -> List Ob -> List Nat -> Option Nat -> Prop} (ho : o = o') (hx : x = x') (hys : ys = ys') (hkr : kr = kr') : rK es bytes o x ys kr K = rK es bytes o' x' ys' kr' K := by rw [ho, hx, hys, hkr]
@[congr] theorem aN2 {e e' : i8} {o o' : List Ob} {rs : List ResultVar} {K : List D -> Prop} (he : e = e') (ho : o = o') : gQ e o rs K = gQ e' o' rs K := by rw [he, ho]
@[congr] theorem aOB {o o' : List Ob} {x x' : SV} {K : D -> List Ob -> Prop} (ho : o = o') (hx : x = x') : xF o x K = xF o' x' K := by rw [ho, hx]
@[congr] theorem aQr {o o' : List Ob} {agg : Option Nat} {x x' : SV} {K : SV -> Prop} (ho : o = o') (hx : x = x') : lI o agg x K = lI o' agg x' K := by rw [ho, hx]
@[congr] theorem aOf {o o' : List Ob} {agg : Option Nat} {y y' : D} {K : SV -> Prop} (ho : o = o') (hy : y = y') : eU o agg y K = eU o' agg y' K := by rw [ho, hy]
@[congr] theorem aOL {o o' : List Ob} {es : Nat} {x x' : SV} {i i' : SV} {K : SV -> Prop} (ho : o = o') (hx : x = x') (hi : i = i') : q8 o es x i K = q8 o' es x' i' K := by rw [ho, hx, hi]
@[congr] theorem aP6 {x x' : SV} {i i' : SV} {K : SV -> Prop} (hx : x = x') (hi : i = i') : uB x i K = uB x' i' K := by rw [hx, hi]
@[congr] theorem aNU {o o' : List Ob} {b : Bool} {x x' : SV} {K : SV -> Prop} (ho : o = o') (hx : x = x') : lD o b x K = lD o' b x' K := by rw [ho, hx]
@[congr] theorem aPW {f : Nat} {off : Nat} {x x' : SV} {K : SV -> Prop} (hx : x = x') : dG f off x K = dG f off x' K := by rw [hx]
@[congr] theorem aN5 {x x' : SV} {i : Nat} {K : SV -> Prop} (hx : x = x') : sK x i K = sK x' i K := by rw [hx]
@[congr] theorem aMD {k : IntKind} {x x' : SV} {K : SV -> Prop} (hx : x = x') : pL k x K = pL k x' K := by rw [hx]
@[congr] theorem aNT {x x' : SV} {lo lo' : Option SV} {hi hi' : Option SV} {K : SV -> Prop} (hx : x = x') (hlo : lo = lo') (hhi : hi = hi') : n6 x lo hi K = n6 x' lo' hi' K := by rw [hx, hlo, hhi]
@[congr] theorem aOD {b : Bool} {x x' : SV} {y y' : SV} {K : SV -> Prop} (hx : x = x') (hy : y = y') : xA b x y K = xA b x' y' K := by rw [hx, hy]
@[congr] theorem aNZ {op : BinOp} {x x' : SV} {y y' : SV} {K : SV -> Prop} (hx : x = x') (hy : y = y') : k0 op x y K = k0 op x' y' K := by rw [hx, hy]
@[congr] theorem aPN {op : BinOp} {x x' : SV} {y y' : SV} {K : SV -> Prop} (hx : x = x') (hy : y = y') : u3 op x y K = u3 op x' y' K := by rw [hx, hy]
@[congr] theorem aPM {op : BinOp} {x x' : SV} {y y' : SV} {K : SV -> Prop} (hx : x = x') (hy : y = y') : t8 op x y K = t8 op x' y' K := by rw [hx, hy]
@[congr] theorem aOj {op : UnOp} {x x' : SV} {K : SV -> Prop} (hx : x = x') : uU op x K = uU op x' K := by rw [hx]
@[congr] theorem aR7 {x x' : SV} {K : SV -> Prop} (hx : x = x') : aAE x K = aAE x' K := by rw [hx]
@[congr] theorem aQz {P : PG} {o o' : List Ob} {E : Nat -> SV} {mo : MO} {K : SV -> Prop} (ho : o = o') : eZ P o E mo K = eZ P o' E mo K := by rw [ho]
@[congr] theorem aRQ {P : PG} {s s' : St} {mo : MO} {K : SV -> St -> Prop} (hs : s = s') : fZ P s mo K = fZ P s' mo K := by rw [hs]
@[congr] theorem aRT {P : PG} {s s' : St} {eff : Bool} {mo : MO} {K : SV -> St -> Prop} (hs : s = s') : oL P s eff mo K = oL P s' eff mo K := by rw [hs]
@[congr] theorem aSH {s s' : St} {es : Nat} {bytes : Nat} {z : D} {n n' : SV} {K : SV -> St -> Prop} (hs : s = s') (hn : n = n') : aQx s es bytes z n K = aQx s' es bytes z n' K := by rw [hs, hn]
def aTv (P:Program) (ty:TypeId) (o:List Ob):SV->Prop
 | .ptr q 0 []=>match aG7 o q with
  | some xs=>eH P ty=some xs.size
  | none=>True
 | _=>True
theorem aLC {P:Program} {ty q:Nat} {o:List Ob}:aTv P ty o (.ptr q 0 [])=(match aG7 o q with
  | some xs=>eH P ty=some xs.size
  | none=>True):=propext aB
theorem aTh {P:Program} {e:i8} {o:List Ob}:fQ P e o []=True:=propext aB
theorem aVQ {P:Program} {e:i8} {o:List Ob} {t:Nat} {r:List ResultVar}:fQ P e o (.tmp t :: r)=fQ P e o r:=propext aB
theorem aVU {P:Program} {e:i8} {o:List Ob} {t ty:Nat} {r:List ResultVar}:fQ P e o (.cell t ty :: r)=(aTv P ty o (look e t)/\fQ P e o r):=by
 apply propext
 refine and_congr ?_ aB
 constructor
 ·intro h
  unfold aTv
  split
  ·rename_i q hq
   split
   ·rename_i xs hx; exact h q xs hq (rS.1 hx)
   ·trivial
  ·trivial
 ·intro h q xs hq hx
  rw [hq] at h
  rw [aLC,rS.2 hx] at h
  exact h
end Go.Pe
namespace Go.Pe
open Go Go.RowKit Go.WideShapes Go.ChangeShapes
inductive Sh where
 | int (k:IntKind)
 | bool
 | str
 | sl (es:Nat) (e:Sh)
 | st (xs:Sh)
 | nil
 | cons (x xs:Sh)
def Sh.size:Sh->Nat
 | .st xs=>xs.size
 | .nil=>0
 | .cons x xs=>x.size + xs.size
 | _=>1
def Sh.ok (P:Program):Sh->TypeId ⊕ (List Field×Nat)->Bool
 | .int k,.inl t=>match P.underlying t with
  | some (.int k')=>k' == k
  | _=>false
 | .bool,.inl t=>match P.underlying t with
  | some .bool=>true
  | _=>false
 | .str,.inl t=>match P.underlying t with
  | some .string=>true
  | _=>false
 | .sl es e,.inl t=>match P.underlying t with
  | some (.slice u)=>P.cellsOf u == es && e.size == es && e.ok P (.inl u)
  | _=>false
 | .st xs,.inl t=>match P.underlying t with
  | some (.struct fs)=>P.cellsOf t == xs.size && xs.ok P (.inr (fs.toList,0))
  | _=>false
 | .nil,.inr ([],_)=>true
 | .cons x xs,.inr (f :: fs,off)=>f.offset == off && P.cellsOf f.type == x.size && x.ok P (.inl f.type) && xs.ok P (.inr (fs,off + x.size))
 | _,_=>false
def jR:Sh->D->Prop
 | .int k,x=>∃ n,x=.int k n/\(Lit.int k n).wf=true
 | .bool,x=>∃ b,x=.bool b
 | .str,x=>∃ s,x=.str s/\s.length<=maxLen
 | .sl es e,x=>∃ xs:List D,x=.sl false es (jC xs)/\xs.length<=maxLen/\∀ y∈xs,jR e y
 | .st fs,x=>∃ xs,x=.st xs/\jR fs xs
 | .nil,x=>x=.nil
 | .cons f fs,x=>∃ y ys,x=.cons y ys/\jR f y/\jR fs ys
theorem jR.size:∀ (sh:Sh) (x:D),jR sh x->x.size=sh.size
 | .int _,x,h=>by obtain ⟨n,rfl,_⟩:=h; rfl
 | .bool,x,h=>by obtain ⟨n,rfl⟩:=h; rfl
 | .str,x,h=>by obtain ⟨n,rfl,_⟩:=h; rfl
 | .sl _ _,x,h=>by obtain ⟨n,rfl,_⟩:=h; rfl
 | .st fs,x,h=>by obtain ⟨xs,rfl,h⟩:=h; exact jR.size fs xs h
 | .nil,x,h=>by rw [h]; rfl
 | .cons f fs,x,h=>by
  obtain ⟨y,ys,rfl,h1,h2⟩:=h
  show y.size + ys.size=f.size + fs.size
  rw [jR.size f y h1,jR.size fs ys h2]
section
variable {H : Type} {enc : TypeId × Value -> H} {P : Program} {w : World} {base : Nat} {spare : Nat -> Bool} {held : Bool}
theorem aLS {a:Addr} {es:Nat} {e:Sh}:∀ (k:Nat) (_:∀ i,i < k->∃ cs x,(∀ j u,cs[j]?=some u->w.cell? ((a.add (i * es)).add j)=some u)/\cs.length=es/\D.rep w (fun _=>False) x cs []/\jR e x),
  ∃ xs ds,xs.length=k/\ds.length=k * es/\(jC xs).rep w (fun _=>False) ds []/\(∀ y∈xs,jR e y)/\∀ j u,ds[j]?=some u->w.cell? (a.add j)=some u
 | 0,_=>⟨[],[],rfl,by simp,⟨rfl,rfl⟩,by simp,by simp⟩
 | k + 1,h=>by
  obtain ⟨xs,ds,h1,h2,h3,h4,h5⟩:=aLS k fun i hi=>h i (by omega)
  obtain ⟨cs,x,g1,g2,g3,g4⟩:=h k (by omega)
  refine ⟨xs ++ [x],ds ++ cs,by simp [h1],by simp [h2,g2,Nat.succ_mul],?_,?_,?_⟩
  ·exact (fN xs [x] (ds ++ cs) []).2 ⟨ds,cs,[],[],rfl,rfl,h3,cs,[],[],[],by simp,rfl,g3,rfl,rfl⟩
  ·intro y hy
   rcases aH.1 hy with hy|hy
   ·exact h4 y hy
   ·rw [List.mem_singleton.1 hy]; exact g4
  ·intro j u hu
   by_cases hj:j < ds.length
   ·rw [List.getElem?_append_left hj] at hu; exact h5 j u hu
   ·rw [List.getElem?_append_right (by omega)] at hu
    have:=g1 _ u hu
    rw [aJa,h2,show k * es + (j - k * es)=j by omega] at this
    exact this
theorem aBN:∀ (sh:Sh) (q:TypeId ⊕ (List Field×Nat)),sh.ok P q=true->match q with
  | .inl t=>∀ (fuel:Nat) (cs:List Value) (x:DataW H×List MemPlace),DataW.trod enc P w base spare held fuel t cs=some x->∃ d,d.rep w (fun _=>False) cs []/\jR sh d
  | .inr (fs,off)=>∀ (n:Nat) (cs:List Value),cs.length=off + sh.size->(∀ f∈fs,∃ y,DataW.trod enc P w base spare held n f.type ((cs.drop f.offset).take (P.cellsOf f.type))=some y) ->
    ∃ d,d.rep w (fun _=>False) (cs.drop off) []/\jR sh d
 | .int k,.inl t,hok=>by
  intro fuel cs x h
  unfold Sh.ok at hok
  split at hok
  ·rename_i k' ht
   have:k'=k:=by simpa using hok
   subst this
   obtain ⟨n,rfl,_,hw⟩:=DataW.trod_int ht h
   exact ⟨.int k' n,⟨rfl,rfl⟩,n,rfl,hw⟩
  ·cases hok
 | .bool,.inl t,hok=>by
  intro fuel cs x h
  unfold Sh.ok at hok
  split at hok
  ·rename_i ht
   obtain ⟨n,rfl,_⟩:=DataW.trod_bool ht h
   exact ⟨.bool n,⟨rfl,rfl⟩,n,rfl⟩
  ·cases hok
 | .str,.inl t,hok=>by
  intro fuel cs x h
  unfold Sh.ok at hok
  split at hok
  ·rename_i ht
   obtain ⟨s,rfl,_,hs⟩:=DataW.trod_string ht h
   exact ⟨.str s.data.toList,⟨rfl,rfl⟩,_,rfl,by simpa using hs⟩
  ·cases hok
 | .sl es e,.inl t,hok=>by
  intro fuel cs x h
  unfold Sh.ok at hok
  split at hok
  ·rename_i u ht
   simp only [aC,beq_iff_eq] at hok
   obtain ⟨⟨hu,hes⟩,hoke⟩:=hok
   rcases Go.Deep.open_slice ht h with ⟨rfl,_⟩|⟨a,len,cap,m,n,D',Pl,rfl,hb,hl,hm,hmm,_,hx⟩
   ·exact ⟨.sl false es .nil,⟨trivial,none,0,[],[],rfl,aD _,⟨rfl,rfl⟩,rfl,rfl,.inl rfl⟩,[],rfl,aS _,by simp⟩
   ·have hlm:len<=m:=by rw [hmm]; split<;>omega
    have hel:∀ i,i < len->∃ cs x,(∀ j u,cs[j]?=some u->w.cell? ((a.add (i * es)).add j)=some u)/\cs.length=es/\Go.Pe.D.rep w (fun _=>False) x cs []/\jR e x:=by
     intro i hi
     obtain ⟨cs',h1,h2⟩:=hx i (by omega)
     rw [hu] at h1
     obtain ⟨_,g2,g3⟩:=World.cells?_some h1
     obtain ⟨d,hd,hty⟩:=aBN e (.inl u) hoke _ _ _ h2
     refine ⟨cs',d,fun j v hv=>?_,g2,hd,hty⟩
     rw [g3 j (by rw [<- g2]; exact cV hv)]; exact hv
    obtain ⟨xs,ds,h1,h2,h3,h4,h5⟩:=aLS len hel
    have hlen:(jC xs).len=len:=by rw [eX,h1]
    refine ⟨.sl false es (jC xs),⟨(iU xs).2 fun y hy=>(jR.size e y (h4 y hy)).trans hes,some a,cap,ds,[],by rw [hlen],by rw [hlen]; exact hl,h3,rfl,rfl,.inr ⟨a,rfl,?_⟩⟩,xs,rfl,by rw [h1]; omega,h4⟩
    cases hds:ds with
    | nil=>exact .inl rfl
    | cons v vs =>
     have h0:=h5 0 v (by rw [hds]; rfl)
     have hlt:=Go.Lib.lt_of_cell h0
     rw [pH] at hlt
     exact .inr ⟨hlt,fun h=>h,by rw [<- hds]; exact h5⟩
  ·cases hok
 | .st xs,.inl t,hok=>by
  intro fuel cs x h
  unfold Sh.ok at hok
  split at hok
  ·rename_i fs ht
   simp only [aC,beq_iff_eq] at hok
   obtain ⟨hc,hok⟩:=hok
   obtain ⟨ys,n,_,_,hlen,hy,hf⟩:=DataW.trod_struct ht h
   obtain ⟨d,hd,hty⟩:=aBN xs (.inr (fs.toList,0)) hok n cs (by rw [hlen,hc,aY]) (by
    intro f hf'
    obtain ⟨i,hi,he⟩:=List.getElem_of_mem hf'
    have hi2:i < ys.length:=by rw [hy]; simpa using hi
    exact ⟨ys[i],by rw [hf i f (by rw [<- he]; simp),List.getElem?_eq_getElem hi2]⟩)
   exact ⟨.st d,(show d.rep w _ cs [] from by simpa using hd),d,rfl,hty⟩
  ·cases hok
 | .nil,.inr ([],off),hok=>by
  intro n cs hlen _
  exact ⟨.nil,⟨by simp [Sh.size] at hlen; simp [hlen],rfl⟩,rfl⟩
 | .cons x xs,.inr (f :: fs,off),hok=>by
  intro n cs hlen hf
  unfold Sh.ok at hok
  simp only [aC,beq_iff_eq] at hok
  obtain ⟨⟨⟨ho,hc⟩,hx⟩,hxs⟩:=hok
  obtain ⟨y,hy⟩:=hf f (by simp)
  obtain ⟨d,hd,hty⟩:=aBN x (.inl f.type) hx _ _ _ hy
  obtain ⟨ds,hds,htys⟩:=aBN xs (.inr (fs,off + x.size)) hxs n cs (by rw [hlen]; simp only [Sh.size]; omega) (fun g hg=>hf g (by simp [hg]))
  rw [ho,hc] at hd
  refine ⟨.cons d ds,⟨(cs.drop off).take x.size,cs.drop (off + x.size),[],[],?_,rfl,hd,hds⟩,d,ds,rfl,hty,htys⟩
  rw [<- aX,aK]
 | .int _,.inr _,hok=>by simp [Sh.ok] at hok
 | .bool,.inr _,hok=>by simp [Sh.ok] at hok
 | .str,.inr _,hok=>by simp [Sh.ok] at hok
 | .sl _ _,.inr _,hok=>by simp [Sh.ok] at hok
 | .st _,.inr _,hok=>by simp [Sh.ok] at hok
 | .nil,.inl _,hok=>by simp [Sh.ok] at hok
 | .nil,.inr (_ :: _,_),hok=>by simp [Sh.ok] at hok
 | .cons _ _,.inl _,hok=>by simp [Sh.ok] at hok
 | .cons _ _,.inr ([],_),hok=>by simp [Sh.ok] at hok
theorem aBd {r:Reach} {b0:Nat} {t:TypeId} {v:Value} {d:DataW H} {ps:List MemPlace} (sh:Sh) (hok:sh.ok P (.inl t)=true) (hval:Value.okWide P w r b0 t v)
  (hd:DataW.Trod enc P w base spare held t v d ps):∃ x cs,x.rep w (fun _=>False) cs []/\v=gS x cs/\jR sh x:=by
 obtain ⟨fuel,hf⟩:=hd
 obtain ⟨x,hx,hty⟩:=aBN sh (.inl t) hok fuel _ _ hf
 refine ⟨x,_,hx,?_,hty⟩
 cases sh with
 | int k =>
  unfold Sh.ok at hok
  split at hok
  ·rename_i k' ht
   obtain ⟨n,rfl⟩:=okWide_int ht hval
   obtain ⟨m,rfl,_⟩:=hty
   rfl
  ·cases hok
 | bool =>
  unfold Sh.ok at hok
  split at hok
  ·rename_i ht
   obtain ⟨n,rfl⟩:=okWide_bool ht hval
   obtain ⟨m,rfl⟩:=hty
   rfl
  ·cases hok
 | str =>
  unfold Sh.ok at hok
  split at hok
  ·rename_i ht
   obtain ⟨n,rfl⟩:=okWide_string ht hval
   obtain ⟨m,rfl,_⟩:=hty
   rfl
  ·cases hok
 | sl es e =>
  unfold Sh.ok at hok
  split at hok
  ·rename_i u ht
   obtain ⟨a,l,c,rfl⟩:=okWide_slice ht hval
   obtain ⟨m,rfl,_⟩:=hty
   rfl
  ·cases hok
 | st xs =>
  unfold Sh.ok at hok
  split at hok
  ·rename_i fs ht
   obtain ⟨cs,rfl,_⟩:=okWide_struct ht hval
   obtain ⟨m,rfl,_⟩:=hty
   simp [gS,Value.cells]
  ·cases hok
 | nil=>simp [Sh.ok] at hok
 | cons _ _=>simp [Sh.ok] at hok
end
end Go.Pe
namespace Go.Pe
open Go Go.RowKit
theorem sI {w:World} {x:D} {xs:List D} {cs:List Value} {us:List Value} (h:x.rep w (fun _=>False) cs []) (hs:eV w (fun _=>False) xs us []):eV w (fun _=>False) (x :: xs) (gS x cs :: us) [] :=
 ⟨cs,us,[],[],rfl,rfl,h,hs⟩
theorem aDQ {w:World}:eV w (fun _=>False) [] [] []:=⟨rfl,rfl⟩
theorem Fn.walk {P:PG} {f:FuncId} {ds:List D} {vs:List Value} {w:World} (h:Fn P f ds (fun rs=>rs=[.bool true])) (hF:P.F w) (hv:eV w (fun _=>False) ds vs []) :
  Calls P.P f vs.toArray w fun e w'=>e=.returned (.bool true)/\Below w.heap.size w w':=by
 refine (h (fun _=>False) vs w (fun b hb=>hb.elim) ⟨w,hF,aD _,fun _ _=>⟨fun h=>h,rfl⟩⟩ hv).mono fun e w' ⟨rs,us,fp,he,hr,hrep,_,_,hx⟩=>?_
 subst hr
 obtain ⟨cs,us',f1,f2,rfl,_,⟨rfl,_⟩,rfl,_⟩:=hrep
 exact ⟨he,hx⟩
def dl {α:Type} (f:α->D) (xs:List α):D:=jC (xs.map f)
section
variable {α : Type} {f : α -> D}
theorem cO (xs:List α):(dl f xs).len=xs.length:=by simp [dl,eX]
theorem c6 (xs:List α) (i:Nat):(dl f xs).nth i=(xs[i]?).map f:=by simp [dl,qH]
theorem w6 (xs ys:List α):(dl f xs).app (dl f ys)=dl f (xs ++ ys):=by simp [dl,aE3]
theorem uG (h:∀ a,(f a).unown=f a) (xs:List α):(dl f xs).unown=dl f xs:=by
 have e:D.unown ∘ f=f:=funext h
 simp [dl,aEC,e]
theorem rP (h:∀ a,(f a).noOwn=true):∀ xs:List α,(dl f xs).noOwn=true
 | []=>rfl
 | x :: xs=>by
  show ((f x).noOwn && (dl f xs).noOwn)=true
  rw [h,rP h xs]; rfl
theorem mT (h:∀ a,(f a).allOwn=true):∀ xs:List α,(dl f xs).allOwn=true
 | []=>rfl
 | x :: xs=>by
  show ((f x).allOwn && (dl f xs).allOwn)=true
  rw [h,mT h xs]; rfl
theorem gV:∀ (xs:List α) (i:Nat) (a:α),(dl f xs).setN i (f a)=dl f (xs.set i a)
 | [],i,a=>by cases i<;>rfl
 | x :: xs,0,a=>rfl
 | x :: xs,i + 1,a=>by
  show D.cons (f x) ((dl f xs).setN i (f a))=D.cons (f x) (dl f (xs.set i a))
  rw [gV xs i a]
theorem pE (n:Nat) (a:α):jC (aF n (f a))=dl f (aF n a):=by simp [dl]
theorem dQ {xs:List α} {i:Nat} (h:i < xs.length):∃ a,xs[i]?=some a:=⟨xs[i],List.getElem?_eq_getElem h⟩
theorem vN {xs:List α} {i:Nat} {a z:α} (h:xs[i]?=some a):(xs.take i ++ aF (xs.length - i) z).set i a=xs.take (i + 1) ++ aF (xs.length - (i + 1)) z:=by
 have hi:=cV h
 rw [List.set_append_right _ _ (by simp; omega),List.length_take,Nat.min_eq_left (by omega),Nat.sub_self,show xs.length - i=(xs.length - (i + 1)) + 1 by omega,List.replicate_succ,aO,
  List.take_add_one,h]
 simp
theorem tH {e:Sh} {P:α->Prop} (h:∀ x,jR e x->∃ a,x=f a/\P a):∀ xs:List D,(∀ y∈xs,jR e y)->∃ ys:List α,jC xs=dl f ys/\ys.length=xs.length/\∀ a∈ys,P a
 | [],_=>⟨[],rfl,rfl,by simp⟩
 | x :: xs,hx=>by
  obtain ⟨a,rfl,ha⟩:=h x (hx x (by simp))
  obtain ⟨ys,h1,h2,h3⟩:=tH h xs fun y hy=>hx y (by simp [hy])
  refine ⟨a :: ys,?_,by simp [h2],?_⟩
  ·show D.cons (f a) (jC xs)=D.cons (f a) (dl f ys)
   rw [h1]
  ·intro b hb
   rcases List.mem_cons.1 hb with hb|hb
   ·rw [hb]; exact ha
   ·exact h3 b hb
end
theorem aOE {k:IntKind} {n:Int}:(D.int k n).isV=true:=rfl
theorem aMh {b:Bool}:(D.bool b).isV=true:=rfl
theorem aOi {b:List UInt8}:(D.str b).isV=true:=rfl
theorem aO9 {b:Bool}:(D.err b).isV=true:=rfl
theorem aSQ {o:Bool} {es:Nat} {xs:D}:(D.sl o es xs).isV=true:=rfl
theorem aSS {xs:D}:(D.st xs).isV=true:=rfl
theorem aPX {x:D}:(D.ptr x).isV=true:=rfl
theorem aP2 {g:Nat} {x:D}:(D.clo g x).isV=true:=rfl
def iD (n:Int):D:=.int .i64 n
theorem lM {o:List Ob} {K:D->List Ob->List Nat->Prop} (es:Nat) (h:K (.sl true es .nil) o []):mS o .nil K:=⟨es,h⟩
theorem iM {α:Type} {f:α->D} (xs:List α) (a:α):(dl f xs).app (D.cons (f a) .nil)=dl f (xs ++ [a]):=w6 xs [a]
theorem gD (xs:List Int) (n:Int):(dl iD xs).app (D.cons (.int .i64 n) .nil)=dl iD (xs ++ [n]):=w6 xs [n]
theorem aM7 (n:Int):(iD n).unown=iD n:=rfl
theorem aMp (n:Int):(iD n).noOwn=true:=rfl
theorem vL (n:Int):(iD n).allOwn=true:=rfl
end Go.Pe
set_option linter.all false
namespace Go.Pe
open Go Go.RowKit
def kE:Ob->Option Nat->List Nat->Option D
 | .box z,none,p=>gU p z
 | .val (.sl true _ xs),some i,p=>(xs.nth i).bind (gU p)
 | .val (.st xs),none,f :: p=>gU (f :: p) (.st xs)
 | _,_,_=>none
def dY:Ob->Option Nat->List Nat->D->Ob
 | .box z,none,p,y=>.box (kG p z y)
 | .val (.sl true es xs),some i,p,y=>.val (.sl true es (xs.setN i (kG p ((xs.nth i).getD .nil) y)))
 | .val (.st xs),none,f :: p,y=>.val (kG (f :: p) (.st xs) y)
 | ob,_,_,_=>ob
theorem aAh (ob:Ob) (i:Option Nat) (p:List Nat) (y u:D) (h:kE ob i p=some u) (r:Nat) (v:Value):dY ob i p y≠.tag r v:=by
 unfold kE at h
 split at h
 ·intro h2; cases h2
 ·intro h2; cases h2
 ·intro h2; cases h2
 ·cases h
theorem u9 {α:Type} (cs ds:List α) (k n:Nat) (h:(cs.drop k).take n=ds):cs.take k ++ ds ++ cs.drop (k + n)=cs:=by
 subst h
 rw [aI,show cs.drop (k + n)=(cs.drop k).drop n by rw [aX],aK,aK]
theorem xE {w:World} {M:Nat->Prop} {ob:Ob} {i:Option Nat} {p:List Nat} {u:D} {oc:OC} (h:gY w M ob oc) (hp:kE ob i p=some u) :
  ∃ f1 f0 f2 ds,oc.fp=f1 ++ f0 ++ f2/\u.rep w M ds f0/\∀ (M':Nat->Prop) (y:D) (fy:List Nat),(∀ b,b < w.heap.size->M' b->M b)->y.rep w M' ds fy->gY w M' (dY ob i p y) { oc with fp:=f1 ++ fy ++ f2 }:=by
 unfold kE at hp
 split at hp
 ·rename_i z
  obtain ⟨cs,fps,h1,h2,h3⟩:=h
  obtain ⟨f1,f0,f2,hf,hr,hle,hset⟩:=rJ p z cs fps u h2 hp
  refine ⟨oc.blk :: f1,f0,f2,_,by rw [h3,hf]; simp,hr,fun M' y fy hM hy=>?_⟩
  have hs:y.size=u.size:=(dJ _ _ _ hy).symm.trans (dJ _ _ _ hr)
  have:=hset w M' y _ fy ⟨aD _,hM,fun _ _ _=>rfl⟩ hy hs
  rw [u9 _ _ _ _ rfl] at this
  exact ⟨cs,_,h1,this,by simp⟩
 ·rename_i es xs i
  obtain ⟨cs,h1,h2⟩:=h
  obtain ⟨hL,a,c',ds,fps,e1,e2,h3,h4⟩:=h1
  cases hz:xs.nth i with
  | none=>rw [hz] at hp; cases hp
  | some z =>
   rw [hz] at hp
   have hp:gU p z=some u:=hp
   obtain ⟨g1,g0,g2,hg,hr1,hl1,hset1⟩:=yS xs ds fps i z h3 hz
   obtain ⟨f1,f0,f2,hf,hr,hle,hset⟩:=rJ p z _ g0 u hr1 hp
   simp only [if_true] at h4
   have hne:xs.len≠0:=by have:=aJn xs i z hz; omega
   rcases h4 with ⟨hc,_,_⟩|⟨g,ha,hrow,hfp⟩
   ·omega
   ·refine ⟨g :: (g1 ++ f1),f0,f2 ++ g2,_,by rw [hfp,hg,hf]; simp,hr,fun M' y fy hM hy=>?_⟩
    have hs:y.size=u.size:=(dJ _ _ _ hy).symm.trans (dJ _ _ _ hr)
    have k1:=hset w M' y _ fy ⟨aD _,hM,fun _ _ _=>rfl⟩ hy hs
    rw [u9 _ _ _ _ rfl] at k1
    have k2:=hset1 w M' _ _ _ ⟨aD _,hM,fun _ _ _=>rfl⟩ k1 (r4 p z u y hp hs)
    rw [u9 _ _ _ _ rfl] at k2
    have hzs:z.size=es:=(yP xs i z hL hz).2.1
    have hzg:(xs.nth i).getD .nil=z:=by rw [hz]; rfl
    simp only [dY,hzg]
    refine ⟨cs,⟨aC3 xs i _ hL (by rw [r4 p z u y hp hs]; exact hzs),a,c',ds,_,by rw [e1,lV],by rw [lV]; exact e2,by simpa [hz] using k2,?_⟩,h2⟩
    simp only [if_true]
    exact .inr ⟨g,ha,hrow,by simp⟩
 ·rename_i zs f p
  obtain ⟨cs,h1,h2⟩:=h
  obtain ⟨f1,f0,f2,hf,hr,hle,hset⟩:=rJ (f :: p) (.st zs) cs oc.fp u h1 hp
  refine ⟨f1,f0,f2,_,hf,hr,fun M' y fy hM hy=>?_⟩
  have hs:y.size=u.size:=(dJ _ _ _ hy).symm.trans (dJ _ _ _ hr)
  have:=hset w M' y _ fy ⟨aD _,hM,fun _ _ _=>rfl⟩ hy hs
  rw [u9 _ _ _ _ rfl] at this
  refine ⟨cs,this,?_⟩
  show oc.v=_
  rw [h2]
  unfold kG
  split<;>rfl
 ·cases hp
def pS:List Nat->i8->i8
 | [],e=>e
 | r :: rs,e=>pS rs (mX (gH r) e)
theorem aAM:∀ (ks:List Nat) (e:i8) (t:Nat),look (pS ks e) t=if ks.any (fun r=>gH r (look e t)) then .any else look e t
 | [],e,t=>by simp [pS]
 | r :: rs,e,t=>by
  simp only [pS]
  rw [aAM rs,kC (gH r) rfl]
  by_cases h:gH r (look e t)=true
  ·simp only [h,if_true,aN,aP]
   split<;>rfl
  ·simp [h]
theorem Rel.regroup {c:Ctx} {s:St} {C:List OC} {a:Act} {w:World} (h:Rel c s C a w) (ks:List Nat) {o':List Ob} {C':List OC} (hlen:o'.length=C'.length)
  (hsame:∀ (r:Nat) (oc:OC),C[r]?=some oc->∃ oc',C'[r]?=some oc'/\oc'.v=oc.v/\oc'.blk=oc.blk/\(r ∉ ks->oc'=oc))
  (hob:∀ (r:Nat) (ob:Ob) (oc:OC),o'[r]?=some ob->C'[r]?=some oc->(s.o[r]?=some ob/\C[r]?=some oc)\/gY w (Ms c C') ob oc)
  (hnd:(fC C').Nodup) (hsub:∀ b∈fC C',b∈fC C)
  (htag:∀ (q r:Nat) (v:Value),o'[q]?=some (.tag r v)->s.o[q]?=some (.tag r v)\/∃ oc,C'[r]?=some oc/\oc.v=v):Rel c ⟨pS ks s.e,o'⟩ C' a w:=by
 have hg:Went w w (fun _=>False):=aWG (lL.refl w) _
 have hX:∀ b,(fun _=>False:Nat->Prop) b->b∈fC C:=fun b hb=>hb.elim
 have hmem:∀ b∈fC C',(b∈fC C\/w.heap.size<=b)/\b < w.heap.size:=fun b hb=>⟨.inl (hsub b hb),h.wd.lt b (hsub b hb)⟩
 have hval:∀ (r:Nat) (oc:OC),C[r]?=some oc->∃ oc',C'[r]?=some oc'/\oc'.v=oc.v:=fun r oc h1=>by
  obtain ⟨oc',h2,h3,_⟩:=hsame r oc h1
  exact ⟨oc',h2,h3⟩
 refine ⟨h.tmps,h.defers,gA.upd (f:=fun s=>ks.any fun r=>gH r s) hg hX hmem ?_ ?_ (aAM ks s.e) h.env,h.wd.upd hg hX hlen ?_ hnd hmem htag (fun q r v oc _ h1=>hval r oc h1),h.fix⟩
 ·intro s r oc _ _ h1
  obtain ⟨oc',h2,h3,h4,_⟩:=hsame r oc h1
  exact ⟨oc',h2,h3,h4⟩
 ·intro s r oc oc' hf hr h1 h2 h3
  obtain ⟨oc2,h4,_,_,h5⟩:=hsame r oc h1
  have hk:r ∉ ks:=fun hk=>by
   have:=aR.1 hf r hk
   exact this hr
  rw [h4] at h3
  injection h3 with h3
  subst h3
  rw [h5 hk]
  exact ⟨h2,fun h=>h⟩
 ·intro r ob oc h1 h2
  rcases hob r ob oc h1 h2 with ⟨h3,h4⟩|h3
  ·exact .inl ⟨h3,h4,fun _ _ h=>h⟩
  ·exact .inr h3
theorem aDI {α:Type} {f1 f0 f2:List α} (h:(f1 ++ f0 ++ f2).Nodup):(f1 ++ f2).Nodup/\f0.Nodup/\∀ b∈f0,b ∉ f1 ++ f2:=by
 rw [aI,aE] at h
 obtain ⟨h1,h2,h3⟩:=h
 rw [aE] at h2
 obtain ⟨h4,h5,h6⟩:=h2
 refine ⟨aE.2 ⟨h1,h5,fun a ha b hb=>h3 a ha b (by simp [hb])⟩,h4,fun b hb hm=>?_⟩
 rcases aH.1 hm with hm|hm
 ·exact h3 b hm b (by simp [hb]) rfl
 ·exact h6 b hb b hm rfl
section
variable {c : Ctx} {s : St} {C : List OC} {a : Act} {w : World}
theorem aOx {s:St} (ow:Bool) (r:Nat) {ob:Ob} (i:Option Nat) (p:List Nat) {es:Nat} {xs:D} (h1:s.o[r]?=some ob) (hp:kE ob i p=some (.sl ow es xs)) :
  j5 s (fun v:Value=>⟨pS [r] s.e,s.o.set r (dY ob i p (.lnk (s.o.length + 1) v)) ++ [.val (.sl ow es xs),.tag s.o.length v]⟩):=by
 intro c C a w h
 have hr:=cV h1
 have hlen:=h.wd.len
 obtain ⟨oc,h2⟩:∃ oc,C[r]?=some oc:=⟨C[r]'(by omega),List.getElem?_eq_getElem _⟩
 have hrC:=cV h2
 obtain ⟨f1,f0,f2,ds,hf,hrep,hset⟩:=xE (h.wd.obs r ob oc h1 h2) hp
 have hnC:=dS.1 h.wd.nodup
 have hocn:=hnC.1 r oc h2
 rw [hf] at hocn
 obtain ⟨n1,n2,n3⟩:=aDI hocn
 have hrep0:=hrep
 obtain ⟨_,av,cv,_,_,hds,_⟩:=hrep
 obtain ⟨v,rfl⟩:∃ v,ds=[v]:=⟨_,hds⟩
 have hone:=oV _ _ _ hrep0 v (by simp)
 let C':List OC:=C.set r { oc with fp:=f1 ++ [] ++ f2 } ++ [{ v:=v,blk:=0,fp:=f0 },{ v:=Go.undef,blk:=0,fp:=[] }]
 have hcase:∀ (j:Nat) (od:OC),C'[j]?=some od->(j=r/\od={ oc with fp:=f1 ++ [] ++ f2 })\/(j≠r/\j < C.length/\C[j]?=some od)\/(j=C.length/\od={ v:=v,blk:=0,fp:=f0 })\/(j=C.length + 1/\od={ v:=Go.undef,blk:=0,fp:=[] }):=by
  intro j od hj
  rcases f7 hrC hj with ⟨e1,e2⟩|⟨e1,e2,e3⟩|⟨e1,e2⟩
  ·exact .inl ⟨e1,e2⟩
  ·exact .inr (.inl ⟨e1,e2,e3⟩)
  ·match hk:j - C.length,e2 with
   | 0,e2=>simp at e2; exact .inr (.inr (.inl ⟨by omega,e2.symm⟩))
   | 1,e2=>simp at e2; exact .inr (.inr (.inr ⟨by omega,e2.symm⟩))
   | k + 2,e2=>simp at e2
 have hin:∀ b∈f1 ++ f0 ++ f2,b∈oc.fp:=fun b hb=>by rw [hf]; exact hb
 have hsub:∀ b∈fC C',b∈fC C:=by
  intro b hb
  obtain ⟨j,od,hj,hb⟩:=dA.1 hb
  rcases hcase j od hj with ⟨_,rfl⟩|⟨_,_,hj⟩|⟨_,rfl⟩|⟨_,rfl⟩
  ·exact dA.2 ⟨r,oc,h2,hin b (by simp at hb ⊢; rcases hb with hb|hb<;>simp [hb])⟩
  ·exact dA.2 ⟨j,od,hj,hb⟩
  ·exact dA.2 ⟨r,oc,h2,hin b (by simp at hb ⊢; simp [hb])⟩
  ·cases hb
 have hM:∀ b,b < w.heap.size->Ms c C' b->Ms c C b:=fun b _ hb=>hb.imp id (hsub b)
 refine ⟨v,C',h.regroup [r] (by simp [C',hlen]) ?_ ?_ ?_ hsub ?_⟩
 ·intro j od hj
  have hjl:=cV hj
  by_cases e:j=r
  ·subst e
   rw [h2] at hj
   injection hj with hj
   subst hj
   exact ⟨{ oc with fp:=f1 ++ [] ++ f2 },by rw [List.getElem?_append_left (by simpa using hrC),List.getElem?_set]; simp [hrC],rfl,rfl,fun hk=>absurd (by simp) hk⟩
  ·exact ⟨od,by rw [List.getElem?_append_left (by simpa using hjl),List.getElem?_set,if_neg (fun h=>e h.symm)]; exact hj,rfl,rfl,fun _=>rfl⟩
 ·intro j oj odj hj1 hj2
  rcases hcase j odj hj2 with ⟨e,rfl⟩|⟨e,el,hj⟩|⟨e,rfl⟩|⟨e,rfl⟩
  ·subst e
   rw [List.getElem?_append_left (by simpa using hr),List.getElem?_set] at hj1
   simp [hr] at hj1
   subst hj1
   exact .inr (hset (Ms c C') _ [] hM ⟨rfl,hone,rfl⟩)
  ·rw [List.getElem?_append_left (by simp; omega),List.getElem?_set,if_neg (fun h=>e h.symm)] at hj1
   exact .inl ⟨hj1,hj⟩
  ·subst e
   rw [<- hlen,List.getElem?_append_right (by simp)] at hj1
   simp at hj1
   subst hj1
   exact .inr ⟨[v],eC (aD _) hM _ _ _ (fun _ _ _=>rfl) hrep0,rfl⟩
  ·subst e
   rw [<- hlen,List.getElem?_append_right (by simp)] at hj1
   simp at hj1
   subst hj1
   exact .inr rfl
 ·refine dS.2 ⟨fun j od hj=>?_,fun j k od oe hne hj hk b hb hb'=>?_⟩
  ·rcases hcase j od hj with ⟨_,rfl⟩|⟨_,_,hj⟩|⟨_,rfl⟩|⟨_,rfl⟩
   ·simpa using n1
   ·exact hnC.1 j od hj
   ·exact n2
   ·exact aL
  ·have other:∀ (k:Nat) (oe:OC),k≠r->C[k]?=some oe->∀ b∈f1 ++ f0 ++ f2,b ∉ oe.fp:=fun k oe hne hk b hb hb'=>hnC.2 r k oc oe (fun h=>hne h.symm) h2 hk b (hin b hb) hb'
   rcases hcase j od hj with ⟨ej,rfl⟩|⟨ej,_,hj⟩|⟨ej,rfl⟩|⟨ej,rfl⟩<;>rcases hcase k oe hk with ⟨ek,rfl⟩|⟨ek,_,hk⟩|⟨ek,rfl⟩|⟨ek,rfl⟩
   all_goals first
    | omega
    |(cases hb; done)
    |(cases hb'; done)
    | exact hnC.2 j k od oe hne hj hk b hb hb'
    | exact other k oe ek hk b (by simp at hb ⊢; first|exact .inr (.inl hb)|(rcases hb with hb|hb<;>simp [hb])) hb'
    | exact other j od ej hj b (by simp at hb' ⊢; first|exact .inr (.inl hb')|(rcases hb' with hb'|hb'<;>simp [hb'])) hb
    | exact n3 b hb (by simpa using hb')
    | exact n3 b hb' (by simpa using hb)
 ·intro q t u hq
  by_cases hql:q < s.o.length
  ·rw [List.getElem?_append_left (by simpa using hql),List.getElem?_set] at hq
   by_cases e:r=q
   ·rw [if_pos e,if_pos hr] at hq
    injection hq with hq
    exact absurd hq (aAh ob i p _ _ hp t u)
   ·rw [if_neg e] at hq; exact .inl hq
  ·rw [List.getElem?_append_right (by simp; omega)] at hq
   match hk:q - s.o.length,hq with
   | 0,hq=>simp [hk] at hq
   | 1,hq =>
    simp [hk] at hq
    obtain ⟨rfl,rfl⟩:=hq
    exact .inr ⟨{ v:=v,blk:=0,fp:=f0 },by rw [hlen,List.getElem?_append_right (by simp)]; simp,rfl⟩
   | k + 2,hq=>simp [hk] at hq
theorem e8 {s:St} (r:Nat) {ob:Ob} (i:Option Nat) (p:List Nat) {es:Nat} {xs:D} (h1:s.o[r]?=some ob) (hp:kE ob i p=some (.sl true es xs)) :
  j5 s (fun v:Value=>⟨pS [r] s.e,s.o.set r (dY ob i p (.lnk (s.o.length + 1) v)) ++ [.val (.sl true es xs),.tag s.o.length v]⟩):=aOx true r i p h1 hp
theorem gB {s:St} (r q n:Nat) {v:Value} {ob ob':Ob} (i:Option Nat) (p:List Nat) {ow:Bool} {es:Nat} {xs:D} (h1:s.o[r]?=some ob) (hp:kE ob i p=some (.lnk q v)) (hq:s.o[q]?=some (.tag n v))
  (hn:s.o[n]?=some (.val (.sl ow es xs))) (hne:r≠n) (hob:dY ob i p (.sl ow es xs)=ob') :
  gO s ⟨pS [r,n] s.e,(s.o.set r ob').set n .dead⟩:=by
 subst hob
 intro c C a w h
 have hr:=cV h1
 have hnl:=cV hn
 have hlen:=h.wd.len
 obtain ⟨oc,h2⟩:∃ oc,C[r]?=some oc:=⟨C[r]'(by omega),List.getElem?_eq_getElem _⟩
 obtain ⟨on,h3⟩:∃ on,C[n]?=some on:=⟨C[n]'(by omega),List.getElem?_eq_getElem _⟩
 have hrC:=cV h2
 have hnCl:=cV h3
 obtain ⟨f1,f0,f2,ds,hf,hrep,hset⟩:=xE (h.wd.obs r ob oc h1 h2) hp
 obtain ⟨rfl,_,rfl⟩:=hrep
 obtain ⟨on',h4,hv⟩:=h.wd.tags q n v hq
 rw [h3] at h4
 injection h4 with h4
 subst h4
 obtain ⟨cs,h5,h6⟩:=h.wd.obs n _ on hn h3
 have hcs:cs=[v]:=by
  have h7:=h5
  obtain ⟨_,_,_,_,_,e,_⟩:=h7
  rw [e] at h6 ⊢
  simp only [gS,List.headD_cons] at h6
  rw [<- hv,h6]
 subst hcs
 have hnC:=dS.1 h.wd.nodup
 have hocn:=hnC.1 r oc h2
 rw [hf] at hocn
 simp only [aV] at hocn
 have hnn:=hnC.1 n on h3
 have hdis:∀ b∈oc.fp,b ∉ on.fp:=fun b hb hb'=>hnC.2 r n oc on hne h2 h3 b hb hb'
 let C':List OC:=(C.set r { oc with fp:=f1 ++ on.fp ++ f2 }).set n { on with fp:=[] }
 have hcase:∀ (j:Nat) (od:OC),C'[j]?=some od->(j=n/\od={ on with fp:=[] })\/(j=r/\od={ oc with fp:=f1 ++ on.fp ++ f2 })\/(j≠r/\j≠n/\C[j]?=some od):=by
  intro j od hj
  rw [List.getElem?_set] at hj
  by_cases e:n=j
  ·rw [if_pos e,if_pos (by simpa using hnCl)] at hj
   injection hj with hj; exact .inl ⟨e.symm,hj.symm⟩
  ·rw [if_neg e,List.getElem?_set] at hj
   by_cases e2:r=j
   ·rw [if_pos e2,if_pos hrC] at hj
    injection hj with hj; exact .inr (.inl ⟨e2.symm,hj.symm⟩)
   ·rw [if_neg e2] at hj; exact .inr (.inr ⟨fun h=>e2 h.symm,fun h=>e h.symm,hj⟩)
 have hin:∀ b∈f1 ++ f2,b∈oc.fp:=fun b hb=>by rw [hf]; simpa using hb
 have hsub:∀ b∈fC C',b∈fC C:=by
  intro b hb
  obtain ⟨j,od,hj,hb⟩:=dA.1 hb
  rcases hcase j od hj with ⟨_,rfl⟩|⟨_,rfl⟩|⟨_,_,hj⟩
  ·cases hb
  ·simp only [aH] at hb
   rcases hb with (hb|hb)|hb
   ·exact dA.2 ⟨r,oc,h2,hin b (by simp [hb])⟩
   ·exact dA.2 ⟨n,on,h3,hb⟩
   ·exact dA.2 ⟨r,oc,h2,hin b (by simp [hb])⟩
  ·exact dA.2 ⟨j,od,hj,hb⟩
 have hM:∀ b,b < w.heap.size->Ms c C' b->Ms c C b:=fun b _ hb=>hb.imp id (hsub b)
 refine ⟨C',h.regroup [r,n] (by simp [C',hlen]) ?_ ?_ ?_ hsub ?_⟩
 ·intro j od hj
  have hjl:=cV hj
  by_cases e:n=j
  ·subst e
   rw [h3] at hj; injection hj with hj; subst hj
   exact ⟨{ on with fp:=[] },by rw [List.getElem?_set]; simp [hnCl],rfl,rfl,fun hk=>absurd (by simp) hk⟩
  ·by_cases e2:r=j
   ·subst e2
    rw [h2] at hj; injection hj with hj; subst hj
    exact ⟨{ oc with fp:=f1 ++ on.fp ++ f2 },by rw [List.getElem?_set,if_neg e,List.getElem?_set]; simp [hrC],rfl,rfl,fun hk=>absurd (by simp) hk⟩
   ·exact ⟨od,by rw [List.getElem?_set,if_neg e,List.getElem?_set,if_neg e2]; exact hj,rfl,rfl,fun _=>rfl⟩
 ·intro j oj odj hj1 hj2
  rcases hcase j odj hj2 with ⟨e,rfl⟩|⟨e,rfl⟩|⟨e1,e2,hj⟩
  ·subst e
   rw [List.getElem?_set] at hj1
   simp [hnl] at hj1
   subst hj1
   exact .inr rfl
  ·subst e
   rw [List.getElem?_set,if_neg (fun h=>hne h.symm),List.getElem?_set] at hj1
   simp [hr] at hj1
   subst hj1
   exact .inr (hset (Ms c C') _ on.fp hM (eC (aD _) hM _ _ _ (fun _ _ _=>rfl) h5))
  ·rw [List.getElem?_set,if_neg (fun h=>e2 h.symm),List.getElem?_set,if_neg (fun h=>e1 h.symm)] at hj1
   exact .inl ⟨hj1,hj⟩
 ·have hnew:(f1 ++ on.fp ++ f2).Nodup:=by
   obtain ⟨m1,m2,m3⟩:=aE.1 hocn
   rw [aI]
   refine aE.2 ⟨m1,aE.2 ⟨hnn,m2,fun x hx y hy e=>?_⟩,fun x hx y hy e=>?_⟩
   ·subst e; exact hdis x (hin x (by simp [hy])) hx
   ·subst e
    rcases aH.1 hy with hy|hy
    ·exact hdis x (hin x (by simp [hx])) hy
    ·exact m3 x hx x hy rfl
  refine dS.2 ⟨fun j od hj=>?_,fun j k od oe hne' hj hk b hb hb'=>?_⟩
  ·rcases hcase j od hj with ⟨_,rfl⟩|⟨_,rfl⟩|⟨_,_,hj⟩
   ·exact aL
   ·exact hnew
   ·exact hnC.1 j od hj
  ·have other:∀ (k:Nat) (oe:OC),k≠r->k≠n->C[k]?=some oe->∀ b∈f1 ++ on.fp ++ f2,b ∉ oe.fp:=by
    intro k oe e1 e2 hk b hb hb'
    simp only [aH] at hb
    rcases hb with (hb|hb)|hb
    ·exact hnC.2 r k oc oe (fun h=>e1 h.symm) h2 hk b (hin b (by simp [hb])) hb'
    ·exact hnC.2 n k on oe (fun h=>e2 h.symm) h3 hk b hb hb'
    ·exact hnC.2 r k oc oe (fun h=>e1 h.symm) h2 hk b (hin b (by simp [hb])) hb'
   rcases hcase j od hj with ⟨ej,rfl⟩|⟨ej,rfl⟩|⟨ej,ej',hj⟩<;>rcases hcase k oe hk with ⟨ek,rfl⟩|⟨ek,rfl⟩|⟨ek,ek',hk⟩
   all_goals first
    | omega
    |(cases hb; done)
    |(cases hb'; done)
    | exact hnC.2 j k od oe hne' hj hk b hb hb'
    | exact other k oe ek ek' hk b hb hb'
    | exact other j od ej ej' hj b hb' hb
 ·intro q' t u hq'
  rw [List.getElem?_set] at hq'
  by_cases e:n=q'
  ·rw [if_pos e,if_pos (by simpa using hnl)] at hq'
   cases hq'
  ·rw [if_neg e,List.getElem?_set] at hq'
   by_cases e2:r=q'
   ·rw [if_pos e2,if_pos hr] at hq'
    injection hq' with hq'; exact absurd hq' (aAh ob i p _ _ hp t u)
   ·rw [if_neg e2] at hq'; exact .inl hq'
theorem freeze {s:St} (r:Nat) {ob ob':Ob} (i:Option Nat) (p:List Nat) {x:D} (h1:s.o[r]?=some ob) (hp:kE ob i p=some x) (hob:dY ob i p x.unown=ob') :
  gO s ⟨pS [r] s.e,s.o.set r ob'⟩:=by
 subst hob
 intro c C a w h
 have hr:=cV h1
 have hlen:=h.wd.len
 obtain ⟨oc,h2⟩:∃ oc,C[r]?=some oc:=⟨C[r]'(by omega),List.getElem?_eq_getElem _⟩
 have hrC:=cV h2
 obtain ⟨f1,f0,f2,ds,hf,hrep,hset⟩:=xE (h.wd.obs r ob oc h1 h2) hp
 have hnC:=dS.1 h.wd.nodup
 have hocn:=hnC.1 r oc h2
 rw [hf] at hocn
 obtain ⟨n1,n2,n3⟩:=aDI hocn
 have hin:∀ b∈f1 ++ f0 ++ f2,b∈oc.fp:=fun b hb=>by rw [hf]; exact hb
 let C':List OC:=C.set r { oc with fp:=f1 ++ [] ++ f2 }
 have hcase:∀ (j:Nat) (od:OC),C'[j]?=some od->(j=r/\od={ oc with fp:=f1 ++ [] ++ f2 })\/(j≠r/\C[j]?=some od):=by
  intro j od hj
  rw [List.getElem?_set] at hj
  by_cases e2:r=j
  ·rw [if_pos e2,if_pos hrC] at hj
   injection hj with hj; exact .inl ⟨e2.symm,hj.symm⟩
  ·rw [if_neg e2] at hj; exact .inr ⟨fun h=>e2 h.symm,hj⟩
 have hsub:∀ b∈fC C',b∈fC C/\b ∉ f0:=by
  intro b hb
  obtain ⟨j,od,hj,hb⟩:=dA.1 hb
  rcases hcase j od hj with ⟨_,rfl⟩|⟨e,hj⟩
  ·simp at hb
   exact ⟨dA.2 ⟨r,oc,h2,hin b (by simp; rcases hb with hb|hb<;>simp [hb])⟩,fun h=>n3 b h (by simpa using hb)⟩
  ·exact ⟨dA.2 ⟨j,od,hj,hb⟩,fun h=>hnC.2 r j oc od (fun h=>e h.symm) h2 hj b (hin b (by simp [h])) hb⟩
 have hM:∀ b,b < w.heap.size->Ms c C' b->Ms c C b:=fun b _ hb=>hb.imp id fun h=>(hsub b h).1
 refine ⟨C',h.regroup [r] (by simp [C',hlen]) ?_ ?_ ?_ (fun b hb=>(hsub b hb).1) ?_⟩
 ·intro j od hj
  by_cases e2:r=j
  ·subst e2
   rw [h2] at hj; injection hj with hj; subst hj
   exact ⟨{ oc with fp:=f1 ++ [] ++ f2 },by rw [List.getElem?_set]; simp [hrC],rfl,rfl,fun hk=>absurd (by simp) hk⟩
  ·exact ⟨od,by rw [List.getElem?_set,if_neg e2]; exact hj,rfl,rfl,fun _=>rfl⟩
 ·intro j oj odj hj1 hj2
  rcases hcase j odj hj2 with ⟨e,rfl⟩|⟨e1,hj⟩
  ·subst e
   rw [List.getElem?_set] at hj1
   simp [hr] at hj1
   subst hj1
   refine .inr (hset (Ms c C') _ [] hM (iA _ _ _ (fun b hb=>?_) (fun b hb hm=>?_) hrep))
   ·exact hb.imp id fun h=>(hsub b h).1
   ·rcases hm with hm|hm
    ·exact h.wd.apart b (dA.2 ⟨j,oc,h2,hin b (by simp [hb])⟩) hm
    ·exact (hsub b hm).2 hb
  ·rw [List.getElem?_set,if_neg (fun h=>e1 h.symm)] at hj1
   exact .inl ⟨hj1,hj⟩
 ·refine dS.2 ⟨fun j od hj=>?_,fun j k od oe hne hj hk b hb hb'=>?_⟩
  ·rcases hcase j od hj with ⟨_,rfl⟩|⟨_,hj⟩
   ·simpa using n1
   ·exact hnC.1 j od hj
  ·rcases hcase j od hj with ⟨ej,rfl⟩|⟨ej,hj⟩<;>rcases hcase k oe hk with ⟨ek,rfl⟩|⟨ek,hk⟩
   ·omega
   ·exact hnC.2 r k oc oe (fun h=>ek h.symm) h2 hk b (hin b (by simp at hb ⊢; rcases hb with hb|hb<;>simp [hb])) hb'
   ·exact hnC.2 r j oc od (fun h=>ej h.symm) h2 hj b (hin b (by simp at hb' ⊢; rcases hb' with hb'|hb'<;>simp [hb'])) hb
   ·exact hnC.2 j k od oe hne hj hk b hb hb'
 ·intro q' t u hq'
  rw [List.getElem?_set] at hq'
  by_cases e2:r=q'
  ·rw [if_pos e2,if_pos hr] at hq'
   injection hq' with hq'; exact absurd hq' (aAh ob i p _ _ hp t u)
  ·rw [if_neg e2] at hq'; exact .inl hq'
end
section
variable {P : PG} {s : St} {o : List Ob} {E : Nat -> SV} {K : SV -> Prop} {KK : SV -> St -> Prop} {KN : Nat -> Nat -> Prop}
theorem aLg {es:Nat} {x:Opd} {lo hi:Option Opd}:eZ P o E (.slx es x lo hi) K=kL o es (iP E x) (tV E lo) (tV E hi) K:=propext aB
theorem aJV {es:Nat} {x:Opd}:eZ P o E (.sl0 es x) K=nT o es (iP E x) K:=propext aB
theorem aJ0 {x y:Opd}:eZ P o E (.shr x y) K=s9 (iP E x) (iP E y) K:=propext aB
theorem aKY {n:Nat} {x:Opd}:eZ P o E (.ldv n x) K=nX o n (iP E x) K:=propext aB
@[congr] theorem aN4 {o o' : List Ob} {n : Nat} {x x' : SV} (ho : o = o') (hx : x = x') : nX o n x K = nX o' n x' K := by rw [ho, hx]
def onW (b:Bool) (A B:Prop):Prop:=(b=true->A)/\(b=false->B)
@[congr] theorem aTG {b b' : Bool} {A B : Prop} (h : b = b') : onW b A B = onW b' A B := by rw [h]
theorem aLO {A B:Prop}:onW true A B=A:=propext ⟨fun h=>h.1 rfl,fun h=>⟨fun _=>h,fun h=>(by cases h)⟩⟩
theorem aJS {A B:Prop}:onW false A B=B:=propext ⟨fun h=>h.2 rfl,fun h=>⟨fun h=>(by cases h),fun _=>h⟩⟩
theorem aUS {n:Nat} {x:D}:nX o n (.d x) K=lI o (some n) (.d x) K:=propext aB
theorem aSI {n r es i off:Nat} {p:List Nat}:nX o n (.el r es i off p) K=lI o (some n) (.el r es i off p) K:=propext aB
theorem aPY {n r off:Nat} {p:List Nat}:nX o n (.ptr r off p) K=kY (y5 o r) fun z=>kN (fL p z=off) (kY (gU p z) fun y=>onW y.noOwn (eU o (some n) y K) (kN (p=[]) (kN (y.size=n) (kN (y.isStB=true) (K (.vw r)))))):=by
 apply propext
 simp only [nX,kY]
 have st:∀ y:D,(∃ ys,y=.st ys)↔y.isStB=true:=by
  intro y
  constructor
  ·rintro ⟨ys,rfl⟩; rfl
  ·intro h; cases y<;>first|exact ⟨_,rfl⟩|cases h
 constructor
 ·rintro ⟨z,hz,ho,y,hy,h1,h2⟩
  exact ⟨z,jO.2 hz,ho,y,hy,h1,fun hn=>⟨(h2 hn).1,(h2 hn).2.1,(st y).1 (h2 hn).2.2.1,(h2 hn).2.2.2⟩⟩
 ·rintro ⟨z,hz,ho,y,hy,h1,h2⟩
  exact ⟨z,jO.1 hz,ho,y,hy,h1,fun hn=>⟨(h2 hn).1,(h2 hn).2.1,(st y).2 (h2 hn).2.2.1,(h2 hn).2.2.2⟩⟩
theorem aKf {m es:Nat} {x i:Opd}:eZ P o E (.iar m es x i) K=qI m es (iP E x) (iP E i) K:=propext aB
@[congr] theorem aNX {m es : Nat} {x x' i i' : SV} (hx : x = x') (hi : i = i') : qI m es x i K = qI m es x' i' K := by rw [hx, hi]
theorem aT3 {m es:Nat} {xs:D} {k:IntKind} {n:Int}:qI m es (.d (.ptr (.st xs))) (.d (.int k n)) K=kN (0<=n/\n < (m:Int)) (kN (xs.pre n.toNat=n.toNat * es) (kY (xs.nth n.toNat) fun y=>K (.d (.ptr y)))):=propext aB
theorem aOR {m es r off:Nat} {p:List Nat} {k:IntKind} {n:Int}:qI m es (.ptr r off p) (.d (.int k n)) K=kN (0<=n/\n < (m:Int)) (K (.ptr r (off + n.toNat * es) (p ++ [n.toNat]))):=propext aB
theorem aL1 {neg:Bool} {ks:List Nat} {x y:Opd}:eZ P o E (.sq neg ks x y) K=w4 neg ks (iP E x) (iP E y) K:=propext aB
@[congr] theorem aOV {neg : Bool} {ks : List Nat} {x x' y y' : SV} (hx : x = x') (hy : y = y') : w4 neg ks x y K = w4 neg ks x' y' K := by rw [hx, hy]
theorem aVP {neg:Bool} {ks:List Nat} {a b:D}:w4 neg ks (.d (.st a)) (.d (.st b)) K=kY (u6 ks a b) fun r=>K (.d (.bool (if neg then !r else r))):=propext aB
theorem aJ6 {x:Opd}:eZ P o E (.b2s x) K=qM o (iP E x) K:=propext aB
@[congr] theorem aN3 {o o' : List Ob} {es : Nat} {x x' : SV} {lo lo' hi hi' : Option SV} (ho : o = o') (hx : x = x') (hl : lo = lo') (hh : hi = hi') : kL o es x lo hi K = kL o' es x' lo' hi' K := by rw [ho, hx, hl, hh]
@[congr] theorem aOb {o o' : List Ob} {es : Nat} {x x' : SV} (ho : o = o') (hx : x = x') : nT o es x K = nT o' es x' K := by rw [ho, hx]
@[congr] theorem aN6 {x x' y y' : SV} (hx : x = x') (hy : y = y') : s9 x y K = s9 x' y' K := by rw [hx, hy]
@[congr] theorem aNV {o o' : List Ob} {x x' : SV} (ho : o = o') (hx : x = x') : qM o x K = qM o' x' K := by rw [ho, hx]
@[congr] theorem aP9 {lo lo' hi hi' : Option SV} {n n' : Nat} (hl : lo = lo') (hh : hi = hi') (hn : n = n') : kR lo hi n KN = kR lo' hi' n' KN := by rw [hl, hh, hn]
theorem aUr {es es':Nat} {xs:D} {lo hi:Option SV}:kL o es (.d (.sl false es' xs)) lo hi K=kN (es'=es) (kR lo hi xs.len fun a b=>K (.d (.sl false es (xs.sub a b)))):=propext aB
theorem aO0 {es:Nat} {lo hi:Option SV}:kL o es .nil lo hi K=kR lo hi 0 fun _ _=>K .nil:=propext aB
def aFP (o:List Ob) (r es:Nat):Option (Bool×D):=match kP o r with
 | some (.sl ow es' xs)=>if es'=es then some (ow,xs) else none
 | _=>none
theorem vJ {r es:Nat} {ow:Bool} {xs:D}:aFP o r es=some (ow,xs)↔o[r]?=some (.val (.sl ow es xs)):=by
 unfold aFP
 split
 ·rename_i ow' es' xs' h
  rw [iB] at h
  split
  ·rename_i he
   subst he
   rw [h]
   simp only [Option.some.injEq,Prod.mk.injEq,Ob.val.injEq,D.sl.injEq,true_and]
  ·rename_i he
   rw [h]
   constructor
   ·intro h; cases h
   ·intro h; injection h with h; injection h with h; injection h with _ h2 _; exact absurd h2 he
 ·rename_i h
  constructor
  ·intro h; cases h
  ·intro h2; exact absurd (iB.2 h2) (h _ _ _)
theorem aP0 {es r:Nat} {lo hi:Option SV}:kL o es (.own r) lo hi K=kY (aFP o r es) fun x=>qQ r es x.1 x.2 lo hi K:=by
 apply propext
 simp only [kL,kY]
 constructor
 ·rintro ⟨ow,xs,h,hk⟩; exact ⟨(ow,xs),vJ.2 h,hk⟩
 ·rintro ⟨⟨ow,xs⟩,h,hk⟩; exact ⟨ow,xs,vJ.1 h,hk⟩
def aEv (s:St) (es:Nat) (z:D) (x:SV) (KK:SV->St->Prop):Prop:=match x with
 | .win r es' lo=>es'=es/\∃ xs,s.o[r]?=some (.val (.sl true es xs))/\KK .any ⟨mX (gH r) s.e,s.o.set r (.val (.sl true es (aIU lo z xs)))⟩
 | _=>False
theorem aUl {es:Nat} {z:D} {x:Opd}:fZ P s (.clr es z x) KK=aEv s es z (n9 s.e x) KK:=by
 simp only [fZ,aEv]
 all_goals
  generalize n9 s.e x=q
  match q with
  | .d _=>rfl
  | .undef=>rfl
  | .any=>rfl
  | .nil=>rfl
  | .own _=>rfl
  | .ptr _ _ _=>rfl
  | .el _ _ _ _ _=>rfl
  | .vw _=>rfl
  | .win _ _ _=>rfl
  | .tup _=>rfl
@[congr] theorem aRy {s s' : St} {es : Nat} {z : D} {x x' : SV} (hs : s = s') (hx : x = x') : aEv s es z x KK = aEv s' es z x' KK := by rw [hs, hx]
theorem aOJ {es es' r lo:Nat} {z:D}:aEv s es z (.win r es' lo) KK=kN (es'=es) (kY (aFX s.o r es) fun xs=>KK .any ⟨mX (gH r) s.e,s.o.set r (.val (.sl true es (aIU lo z xs)))⟩):=by
 apply propext
 simp only [aEv,kN,kY]
 constructor
 ·rintro ⟨h,xs,h1,hk⟩; exact ⟨h,xs,lQ.2 h1,hk⟩
 ·rintro ⟨h,xs,h1,hk⟩; exact ⟨h,xs,lQ.1 h1,hk⟩
theorem aUJ {es:Nat} {x hi:Opd}:fZ P s (.cut es x hi) KK=pA s es (n9 s.e x) (n9 s.e hi) KK:=propext aB
@[congr] theorem aN8 {s s' : St} {es : Nat} {x x' hi hi' : SV} (hs : s = s') (hx : x = x') (hh : hi = hi') : pA s es x hi KK = pA s' es x' hi' KK := by rw [hs, hx, hh]
theorem aU8 {es:Nat} {y:D} {hi:SV}:pA s es (.d y) hi KK=kL s.o es (.d y) none (some hi) fun sv=>KK sv s:=propext aB
theorem aPC {es:Nat} {hi:SV}:pA s es .nil hi KK=kL s.o es .nil none (some hi) fun sv=>KK sv s:=propext aB
theorem aOC {es r:Nat} {hi:SV}:pA s es (.own r) hi KK=kY (aFP s.o r es) fun x=>qR s r es x.1 x.2 hi KK:=by
 apply propext
 simp only [pA,kY]
 constructor
 ·rintro ⟨ow,xs,h,hk⟩; exact ⟨(ow,xs),vJ.2 h,hk⟩
 ·rintro ⟨⟨ow,xs⟩,h,hk⟩; exact ⟨ow,xs,vJ.1 h,hk⟩
@[congr] theorem aN0 {s s' : St} {r es : Nat} {ow ow' : Bool} {xs xs' : D} {hi hi' : SV} (hs : s = s') (ho : ow = ow') (hx : xs = xs') (hh : hi = hi') : qR s r es ow xs hi KK = qR s' r es ow' xs' hi' KK := by rw [hs, ho, hx, hh]
theorem aUY {r es:Nat} {xs:D} {hi:SV}:qR s r es false xs hi KK=kR none (some hi) xs.len fun a b=>KK (.d (.sl false es (xs.sub a b))) s:=by unfold qR; rfl
theorem aUI {r es:Nat} {xs:D} {k:IntKind} {b:Int}:qR s r es true xs (.d (.int k b)) KK=kN (0<=b/\b<=xs.len) (onV fun v=>KK (.own s.o.length) ⟨mX (gH r) s.e,s.o.set r (.val (.lnk 0 v)) ++ [.val (.sl true es (xs.takeD b.toNat))]⟩):=propext aB
@[congr] theorem aOc {r es : Nat} {ow ow' : Bool} {xs xs' : D} {lo lo' hi hi' : Option SV} (ho : ow = ow') (hx : xs = xs') (hl : lo = lo') (hh : hi = hi') : qQ r es ow xs lo hi K = qQ r es ow' xs' lo' hi' K := by rw [ho, hx, hl, hh]
theorem aU5 {r es:Nat} {xs:D} {lo hi:Option SV}:qQ r es false xs lo hi K=kR lo hi xs.len fun a b=>K (.d (.sl false es (xs.sub a b))):=by
 unfold qQ; rfl
theorem aUk {r es:Nat} {xs:D} {k:IntKind} {a:Int}:qQ r es true xs (some (.d (.int k a))) none K=kN (0<=a/\a < xs.len) (K (.win r es a.toNat)):=propext aB
theorem aSX {n:Nat}:kR none none n KN=KN 0 n:=propext aB
theorem aUp {n:Nat} {k:IntKind} {a:Int}:kR (some (.d (.int k a))) none n KN=kN (0<=a/\a<=n) (KN a.toNat n):=propext aB
theorem aVl {n:Nat} {k:IntKind} {b:Int}:kR none (some (.d (.int k b))) n KN=kN (0<=b/\b<=n) (KN 0 b.toNat):=propext aB
theorem aTq {n:Nat} {k k':IntKind} {a b:Int}:kR (some (.d (.int k a))) (some (.d (.int k' b))) n KN=kN (0<=a/\a<=b/\b<=n) (KN a.toNat b.toNat):=propext aB
theorem aUH {es es':Nat} {ow:Bool} {xs:D}:nT o es (.d (.sl ow es' xs)) K=K (.d (.sl true es .nil)):=propext aB
theorem aPy {es:Nat}:nT o es .nil K=K .nil:=propext aB
theorem aPG {es r:Nat}:nT o es (.own r) K=kY (lenOf o r) fun _=>K (.d (.sl true es .nil)):=by
 apply propext
 simp only [nT,kY,lenOf]
 constructor
 ·rintro ⟨⟨es',xs,ow,h⟩,hk⟩
  exact ⟨xs.len,by rw [iB.2 h],hk⟩
 ·rintro ⟨n,h,hk⟩
  split at h
  ·rename_i ow es' xs h1
   exact ⟨⟨es',xs,ow,iB.1 h1⟩,hk⟩
  ·cases h
theorem aUn {k k':IntKind} {a n:Int}:s9 (.d (.int k a)) (.d (.int k' n)) K=kN (0<=n) (K (.d (.int k (a.fdiv (2 ^ (min n.toNat k.bits)))))):=propext aB
theorem aQu:qM o .nil K=K (.d (.str [])):=propext aB
theorem aPU {ow:Bool} {r:Nat} (bs:List UInt8) (h:o[r]?=some (.val (.sl ow 1 (lH bs)))) (hk:K (.d (.str bs))):qM o (.own r) K:=⟨bs,ow,h,hk⟩
theorem aSa {s:List UInt8}:n6 (.d (.str s)) none none K=K (.d (.str s)):=propext aB
theorem aT0 {s:List UInt8} {k:IntKind} {a:Int}:n6 (.d (.str s)) (some (.d (.int k a))) none K=kN (0<=a/\a<=s.length) (K (.d (.str (s.drop a.toNat)))):=propext and_assoc.symm
theorem aVx {s:List UInt8} {k:IntKind} {b:Int}:n6 (.d (.str s)) none (some (.d (.int k b))) K=kN (0<=b/\b<=s.length) (K (.d (.str (s.take b.toNat)))):=propext and_assoc.symm
theorem aSd {s:List UInt8} {k k':IntKind} {a b:Int}:n6 (.d (.str s)) (some (.d (.int k a))) (some (.d (.int k' b))) K=kN (0<=a/\a<=b/\b<=s.length) (K (.d (.str ((s.take b.toNat).drop a.toNat)))) :=
 propext ⟨fun ⟨h1,h2,h3,h4⟩=>⟨⟨h1,h2,h3⟩,h4⟩,fun ⟨⟨h1,h2,h3⟩,h4⟩=>⟨h1,h2,h3,h4⟩⟩
def aAs (g:FuncId) (xs:Option D) (K:SV->Prop):Prop:=kY xs fun xs=>K (.d (.clo g xs))
theorem aHQ {g:FuncId} {caps:List Opd}:eZ P o E (.clos g caps) K=aAs g (aAS (evL E caps)) K:=by
 rw [aIY]
 apply propext
 simp only [eZ,aAs,kY]
 constructor
 ·intro h
  split at h
  ·rename_i xs hx; exact ⟨xs,hx,h⟩
  ·exact h.elim
 ·rintro ⟨xs,hx,h⟩
  rw [hx]; exact h
@[congr] theorem aOG {g : FuncId} {xs xs' : Option D} (h : xs = xs') : aAs g xs K = aAs g xs' K := by rw [h]
theorem aNL {g:FuncId} {xs:D}:aAs g (some xs) K=K (.d (.clo g xs)):=by simp [aAs,kY]
def aBq (P:PG) (o:List Ob) (f:SV) (as:List SV) (K:SV->Prop):Prop:=match f with
 | .d (.clo g xs)=>(gE P.P g=true/\xs.caps=true)/\∃ ds rs,iJ o as ds/\Fn P g (ds ++ xs.list) (fun qs=>qs=rs)/\(as.all zQ=true\/rs.all D.allOwn=true)/\K (tL (rs.map D.unown))
 | _=>False
theorem aGn {f:Opd} {args:List Opd}:eZ P o E (.callV f args) K=aBq P o (iP E f) (evL E args) K:=by
 rw [aIY]
 simp only [eZ,aBq]
 all_goals
  generalize iP E f=q
  match q with
  | .d (.bool _)=>rfl
  | .d (.int _ _)=>rfl
  | .d (.str _)=>rfl
  | .d (.err _)=>rfl
  | .d (.sl _ _ _)=>rfl
  | .d (.st _)=>rfl
  | .d (.ptr _)=>rfl
  | .d (.clo _ _)=>rfl
  | .d (.lnk _ _)=>rfl
  | .d .nil=>rfl
  | .d (.cons _ _)=>rfl
  | .undef=>rfl
  | .any=>rfl
  | .nil=>rfl
  | .own _=>rfl
  | .ptr _ _ _=>rfl
  | .el _ _ _ _ _=>rfl
  | .vw _=>rfl
  | .win _ _ _=>rfl
  | .tup _=>rfl
@[congr] theorem aNW {o o' : List Ob} {f f' : SV} {as as' : List SV} (ho : o = o') (hf : f = f') (h : as = as') : aBq P o f as K = aBq P o' f' as' K := by rw [ho, hf, h]
def x9 (P:PG) (s:St) (f:SV) (as:List SV) (KK:SV->St->Prop):Prop:=match f with
 | .d (.clo g xs)=>(gE P.P g=true/\xs.caps=true)/\∃ ds R,iJ s.o as ds/\Fn P g (ds ++ xs.list) R/\∀ rs,R rs->(as.all zQ=true\/rs.all D.allOwn=true)/\KK (mW (dV rs s.o).1) ⟨s.e,(dV rs s.o).2⟩
 | _=>False
theorem aQt {f:Opd} {args:List Opd}:fZ P s (.callW f args) KK=x9 P s (n9 s.e f) (kK s.e args) KK:=by
 simp only [fZ,x9]
 all_goals
  generalize n9 s.e f=q
  match q with
  | .d (.bool _)=>rfl
  | .d (.int _ _)=>rfl
  | .d (.str _)=>rfl
  | .d (.err _)=>rfl
  | .d (.sl _ _ _)=>rfl
  | .d (.st _)=>rfl
  | .d (.ptr _)=>rfl
  | .d (.clo _ _)=>rfl
  | .d (.lnk _ _)=>rfl
  | .d .nil=>rfl
  | .d (.cons _ _)=>rfl
  | .undef=>rfl
  | .any=>rfl
  | .nil=>rfl
  | .own _=>rfl
  | .ptr _ _ _=>rfl
  | .el _ _ _ _ _=>rfl
  | .vw _=>rfl
  | .win _ _ _=>rfl
  | .tup _=>rfl
@[congr] theorem aN9 {s s' : St} {f f' : SV} {as as' : List SV} (hs : s = s') (hf : f = f') (h : as = as') : x9 P s f as KK = x9 P s' f' as' KK := by rw [hs, hf, h]
theorem vH {g:FuncId} {xs:D} {as:List SV} {ds rs:List D} (hf:Fn P g (ds ++ xs.list) (fun qs=>qs=rs)) (he:gE P.P g=true) (hc:xs.caps=true) (ha:dB s.o as=some ds) (hd:(as.all zQ || rs.all D.allOwn)=true) (hk:KK (mW (dV rs s.o).1) ⟨s.e,(dV rs s.o).2⟩):x9 P s (.d (.clo g xs)) as KK :=
 ⟨⟨he,hc⟩,ds,_,m6 ha,hf,fun qs h=>by subst h; exact ⟨by simpa using hd,hk⟩⟩
theorem aMJ {es es' bytes:Nat} {ys:D} {kr:List Nat} {K:SV->List Ob->List Nat->Option Nat->Prop}:rK es bytes o (.d (.sl true es' .nil)) ys kr K=kN (es'=es) (kN (ys.len * bytes<=140737488355328/\ys.len<=9223372036854775807) (K (.own o.length) (o ++ [.val (.sl true es ys)]) kr none)):=propext aB
theorem qB {α:Type} {f:α->D} (xs:List α) (a b:Nat):(dl f xs).sub a b=dl f ((xs.take b).drop a):=by
 unfold D.sub dl
 rw [iR,zY,List.map_drop,List.map_take]
end
section
def aIE:D->Option Value
 | .int k n=>some (.int k n)
 | .bool b=>some (.bool b)
 | .str s=>some (.string ⟨s.toArray⟩)
 | _=>none
def tD:List D->Option (List Value)
 | []=>some []
 | d :: ds=>match aIE d,tD ds with
  | some v,some vs=>some (v :: vs)
  | _,_=>none
theorem aCR {w:World} {M:Nat->Prop} {d:D} {v:Value} (h:aIE d=some v):(∀ cs fp,d.rep w M cs fp->gS d cs=v/\fp=[])/\d.rep w M [v] []/\gS d [v]=v:=by
 cases d<;>simp only [aIE] at h<;>first
  |(injection h with h; subst h; exact ⟨fun cs fp hr=>⟨by rw [hr.1]; rfl,hr.2⟩,⟨rfl,rfl⟩,rfl⟩)
  | cases h
theorem aCQ {w:World} {M:Nat->Prop}:∀ {ds:List D} {vs us:List Value},tD ds=some vs->eV w M ds us []->us=vs
 | [],vs,us,h,hr=>by injection h with h; rw [hr.1,<-h]
 | d :: ds,vs,us,h,hr=>by
  obtain ⟨cs,us',f1,f2,rfl,hf,h1,h2⟩:=hr
  obtain ⟨rfl,rfl⟩:=List.append_eq_nil_iff.1 hf.symm
  unfold tD at h
  split at h
  ·rename_i v vs' hv hvs
   injection h with h
   rw [<- h,((aCR hv).1 cs [] h1).1,aCQ hvs h2]
  ·cases h
theorem uS {w:World} {M:Nat->Prop}:∀ {rs:List D} {us:List Value},tD rs=some us->eV w M rs us []
 | [],us,h=>by injection h with h; exact ⟨h.symm,rfl⟩
 | d :: ds,us,h=>by
  unfold tD at h
  split at h
  ·rename_i v vs' hv hvs
   injection h with h
   obtain ⟨_,h2,h3⟩:=aCR (w:=w) (M:=M) hv
   exact ⟨[v],vs',[],[],by rw [<- h,h3],rfl,h2,uS hvs⟩
  ·cases h
theorem aIa {P:PG} {f:FuncId} {ds rs:List D} {vs us:List Value} (hd:tD ds=some vs) (hr:tD rs=some us) (h:∀ w,P.F w->Calls P.P f vs.toArray w fun e w'=>e=.returned (rF us)/\lL w w'):Fn P f ds (fun qs=>qs=rs):=by
 intro M vs' w hM hg hvs
 rw [aCQ hd hvs]
 refine (h w hg.fact).mono ?_
 rintro e w' ⟨rfl,hx⟩
 exact ⟨rs,us,[],rfl,rfl,uS hr,aL,(fun b hb=>by cases hb),hx⟩
theorem lL.drewN {w:World} (n:Nat):lL w (w.drewN n):=⟨rfl,rfl,rfl,aD _,fun _ _=>rfl⟩
end
theorem eV.unown {w:World} {M M':Nat->Prop}:∀ (ds:List D) (vs:List Value) (fp:List Nat),(∀ b,M' b->M b)->(∀ b∈fp,¬ M' b)->eV w M ds vs fp->eV w M' (ds.map D.unown) vs []
 | [],vs,fp,h1,h2,h=>⟨h.1,rfl⟩
 | d :: ds,vs,fp,h1,h2,h=>by
  obtain ⟨cs,us,f1,f2,rfl,rfl,h3,h4⟩:=h
  exact ⟨cs,us,[],[],by rw [nQ],rfl,iA d cs f1 h1 (fun b hb=>h2 b (List.mem_append_left _ hb)) h3,eV.unown ds us f2 h1 (fun b hb=>h2 b (List.mem_append_right _ hb)) h4⟩
theorem fX {P:PG} {f:FuncId} {ds rs:List D} (h:Fn P f ds (fun qs=>qs=rs)):Fn P f ds (fun qs=>qs=rs.map D.unown):=by
 intro M vs w hM hG hv
 refine Calls.mono (h M vs w hM hG hv) ?_
 rintro e w' ⟨rs',us,fp,he,rfl,hr,hn,hb,hx⟩
 exact ⟨_,us,[],he,rfl,eV.unown _ _ _ (fun b h=>.inl (h.resolve_right (by simp))) (fun b hb' h=>by
  rcases h with h|h
  ·have:=hM b h; have:=hb b hb'; omega
  ·simp at h) hr,by simp,by simp,hx⟩
def aJB (s:St) (x:SV) (KK:SV->St->Prop):Prop:=match x with
 | .d (.str bs)=>KK (.own s.o.length) ⟨s.e,s.o ++ [.val (.sl true 1 (lH bs))]⟩
 | _=>False
theorem aUz {P:PG} {s:St} {x:Opd} {KK:SV->St->Prop}:fZ P s (.s2b x) KK=aJB s (n9 s.e x) KK:=propext aB
theorem aVw {s:St} {bs:List UInt8} {KK:SV->St->Prop}:aJB s (.d (.str bs)) KK=KK (.own s.o.length) ⟨s.e,s.o ++ [.val (.sl true 1 (lH bs))]⟩:=propext aB
@[congr] theorem aQL {s s' : St} {x x' : SV} {KK : SV -> St -> Prop} (hs : s = s') (hx : x = x') : aJB s x KK = aJB s' x' KK := by rw [hs, hx]
theorem aSm {P:PG} {s:St} {neg:Bool} {x:Opd} {KK:SV->St->Prop}:fZ P s (.snil neg x) KK=lU s.o neg (n9 s.e x) fun sv=>KK sv s:=propext aB
theorem aMW {o:List Ob} {neg:Bool} {K:SV->Prop}:lU o neg .nil K=K (.d (.bool (!neg))):=propext aB
theorem aSW {o:List Ob} {neg ow:Bool} {es:Nat} {xs:D} {K:SV->Prop}:lU o neg (.d (.sl ow es xs)) K=aGE neg xs.len K:=propext aB
theorem aMc {o:List Ob} {neg:Bool} {r:Nat} {K:SV->Prop}:lU o neg (.own r) K=kY (lenOf o r) fun n=>aGE neg n K:=by
 apply propext
 simp only [lU,kY,lenOf]
 constructor
 ·rintro ⟨es,xs,ow,h,hk⟩
  exact ⟨xs.len,by rw [iB.2 h],hk⟩
 ·rintro ⟨n,h,hk⟩
  split at h
  ·rename_i ow es xs h1
   injection h with h
   subst h
   exact ⟨es,xs,ow,iB.1 h1,hk⟩
  ·cases h
theorem aIC {neg:Bool} {n:Nat} {K:SV->Prop} (h1:n=0->K (.d (.bool (!neg)))) (h2:K (.d (.bool neg))):aGE neg n K:=⟨h1,h2⟩
@[congr] theorem aL6 {o o' : List Ob} {neg : Bool} {x x' : SV} {K : SV -> Prop} (ho : o = o') (hx : x = x') : lU o neg x K = lU o' neg x' K := by rw [ho, hx]
@[congr] theorem aS7 {neg : Bool} {n n' : Nat} {K : SV -> Prop} (h : n = n') : aGE neg n K = aGE neg n' K := by rw [h]
def aMt (o:List Ob) (r:Nat):Option (List (List UInt8×Int)):=match o[r]? with
 | some (.mp kvs)=>some kvs
 | _=>none
theorem aG8 {o:List Ob} {r:Nat} {kvs:List (List UInt8×Int)}:aMt o r=some kvs↔o[r]?=some (.mp kvs):=by
 unfold aMt; split
 ·rename_i h; rw [h]; simp
 ·rename_i h; constructor
  ·intro h; cases h
  ·intro h2; exact absurd h2 (h _)
theorem aVe {P:PG} {s:St} {KK:SV->St->Prop}:fZ P s .mkm KK=KK (.own s.o.length) ⟨s.e,s.o ++ [.mp []]⟩:=propext aB
theorem aUq {P:PG} {s:St} {m k v:Opd} {KK:SV->St->Prop}:fZ P s (.ins m k v) KK=sG s (n9 s.e m) (n9 s.e k) (n9 s.e v) KK:=propext aB
theorem aVf {P:PG} {s:St} {m k:Opd} {KK:SV->St->Prop}:fZ P s (.lkp m k) KK=sP s (n9 s.e m) (n9 s.e k) KK:=propext aB
@[congr] theorem aN7 {s s' : St} {m m' k k' v v' : SV} {KK : SV -> St -> Prop} (h : s = s') (h1 : m = m') (h2 : k = k') (h3 : v = v') : sG s m k v KK = sG s' m' k' v' KK := by rw [h, h1, h2, h3]
@[congr] theorem aNY {s s' : St} {m m' k k' : SV} {KK : SV -> St -> Prop} (h : s = s') (h1 : m = m') (h2 : k = k') : sP s m k KK = sP s' m' k' KK := by rw [h, h1, h2]
theorem aQs {s:St} {r:Nat} {b:List UInt8} {n:Int} {KK:SV->St->Prop}:sG s (.own r) (.d (.str b)) (.d (.int .i64 n)) KK=kY (aMt s.o r) fun kvs=>kN (lkp kvs b=none) (KK .undef ⟨mX (gH r) s.e,s.o.set r (.mp (kvs ++ [(b,n)]))⟩):=by
 apply propext
 simp only [sG,kY,kN,aG8]
theorem aPa {s:St} {r:Nat} {b:List UInt8} {KK:SV->St->Prop}:sP s (.own r) (.d (.str b)) KK=kY (aMt s.o r) fun kvs=>KK (.tup [.d (.int .i64 ((lkp kvs b).getD 0)),.d (.bool (lkp kvs b).isSome)]) s:=by
 apply propext
 simp only [sP,kY,aG8]
end Go.Pe
set_option maxRecDepth 100000
namespace Go.Pe
open Go Go.RowKit
def wA0:=aA @aHY (aA @aKD (aA @aKX (aA @aJU (aA @aHP (aA @aGd (aA @aHU (aA @aHL (aA @aGr (aA @aPk (aA @aPi (aA @aPQ (aA @aVB (aA @aUs (aA @aVu (aA @aK7 (aA @aMx (aA @aOz (aA @aHE (aA @aG4 (aA @aMR (aA @aNn (aA @aNI (aA @aPE (aA @aQd (aA @aKl (aA @aIx (aA @aGS (aA @aFo (aA @aLm (aA @aNM (aA @aM6 (aA @aNu (aA @aKQ (aA @aLA (aA @aNK (aA @aLY (aA @aNg (aA @aK2 (@aJ7)))))))))))))))))))))))))))))))))))))))
def wA1:=aA @aIr (aA @aK6 (aA @aNi (aA @aG9 (aA @aIF (aA @aOu (aA @aO2 (aA @aP5 (aA @aPo (aA @aPB (aA @aPs (aA @aSE (aA @aQe (aA @aOW (aA @aQi (aA @aPc (aA @aOP (aA @aQp (aA @aQk (aA @aQb (aA @aPb (aA @aON (aA @aPf (aA @aOM (aA @aPh (aA @aS2 (aA @aSb (aA @aTt (aA @aSP (aA @aSA (aA @aSi (aA @aOK (aA @aUt (aA @aPA (aA @aSh (aA @aOU (aA @aO7 (aA @aT2 (aA @aV9 (@aSD)))))))))))))))))))))))))))))))))))))))
def wA2:=aA @aSO (aA @aP8 (aA @aLV (aA @aTu (aA @aVA (aA @aT1 (aA @aVZ (aA @aST (aA @aU4 (aA @aV8 (aA @aTj (aA @aU3 (aA @aS4 (aA @aTx (aA @aMo (aA @aOZ (aA @aKC (aA @aNv (aA @aUd (aA @aP7 (aA @aVT (aA @aUT (aA @aV2 (aA @aUo (aA @aOs (aA @aPq (aA @aVR (aA @aSq (aA @aLe (aA @wU (aA @aMu (aA @aNN (aA @aTA (aA @aLP (aA @aNb (aA @aOm (aA @aPp (aA @aUW (aA @aOn (@aUa)))))))))))))))))))))))))))))))))))))))
def wA3:=aA @aMi (aA @aU0 (aA @aTL (aA @aPR (aA @aSz (aA @aSe (aA @aNl (aA @aSB (aA @aLw (aA @aTi (aA @aSV (aA @aTf (aA @aNw (aA @cJ (aA @aTh (aA @aVQ (aA @aVU (aA @aSk (aA @aLg (aA @aJV (aA @aJ0 (aA @aJ6 (aA @aUr (aA @aO0 (aA @aSX (aA @aUp (aA @aVl (aA @aTq (aA @aUH (aA @aPy (aA @aPG (aA @aUn (aA @aQu (aA @aSa (aA @aT0 (aA @aVx (aA @aSd (aA @aHQ (aA @aNL (@aGn)))))))))))))))))))))))))))))))))))))))
def wA4:=aA @aQt (aA @aMJ (aA @aKn (aA @aHI (aA @aOv (aA @aNz (aA @aLX (aA @aM0 (aA @aPx (aA @aPn (aA @aP4 (aA @aSm (aA @aMW (aA @aSW (aA @aMc (aA @aP0 (aA @aU5 (aA @aUk (aA @aUl (aA @aOJ (aA @aUJ (aA @aU8 (aA @aPC (aA @aOC (aA @aUY (aA @aUI (aA @aL1 (aA @aVP (aA @aUz (aA @aVw (aA @aKf (aA @aT3 (aA @aOR (aA @aKY (aA @aUS (aA @aSI (aA @aPY (aA @aLO (aA @aJS (@aVe)))))))))))))))))))))))))))))))))))))))
def wA5:=aA @aUq (aA @aVf (aA @aQs (@aPa)))
def wA:=aA @wA0 (aA @wA1 (aA @wA2 (aA @wA3 (aA @wA4 (@wA5)))))
def wC0:=aA @aAE.eq_1 (aA @aAE.eq_2 (aA @aAE.eq_3 (aA @aAE.eq_4 (aA @aAE.eq_5 (aA @look.eq_1 (aA @look.eq_2 (aA @lO.eq_1 (@lO.eq_2))))))))
def wC:=@wC0
def wB0:=aA @aLC (aA @aOE (aA @aMh (aA @aOi (aA @aO9 (aA @aSQ (aA @aSS (aA @aPX (aA @aP2 (aA @aY (aA @Nat.add_zero (aA @Bool.false_eq_true (aA @Bool.true_eq_false (aA @Bool.not_true (aA @Bool.not_false (aA @Bool.and_true (aA @Bool.true_and (aA @Bool.and_false (aA @Bool.false_and (aA @Bool.or_false (aA @Bool.false_or (aA @Bool.or_true (aA @aP (aA @true_and (aA @and_true (aA @SV.own.injEq (aA @SV.ptr.injEq (aA @not_false_eq_true (aA @not_true_eq_false (aA @decide_true (aA @decide_false (aA @Option.some.injEq.{0} (aA @List.getElem?_cons_zero.{0} (aA @List.getElem?_cons_succ.{0} (aA @List.getElem?_nil.{0} (aA @aO.{0} (aA @List.set_cons_succ.{0} (aA @List.length_cons.{0} (aA @List.length_nil.{0} (@List.length_append.{0})))))))))))))))))))))))))))))))))))))))
def wB1:=aA @List.cons_append.{0} (aA @List.nil_append.{0} (aA @aV.{0} (aA @aN.{0} (aA @List.any_nil.{0} (aA @List.all_cons.{0} (aA @List.all_nil.{0} (aA @List.map_cons.{0,0} (aA @List.map_nil.{0,0} (aA @if_true.{0} (aA @if_false.{0} (aA @beq_self_eq_true.{0} (aA @ne_eq.{0} (aA @eq_self.{0} (aA @beq_iff_eq.{0} (aA @aI.{0} (aA @aW.{0,0} (aA @Option.map_none.{0,0} (aA @List.contains_nil.{0} (aA @aQ.{0} (aA @evL.eq_1 (aA @evL.eq_2 (aA @kK.eq_1 (aA @kK.eq_2 (aA @mK.eq_1 (aA @mK.eq_2 (aA @kX.eq_1 (aA @i7.eq_1 (aA @iP.eq_1 (aA @iP.eq_2 (aA @n9.eq_1 (aA @n9.eq_2 (aA @tV.eq_1 (aA @tV.eq_2 (aA @nB.eq_1 (aA @nB.eq_2 (aA @nE.eq_1 (aA @nE.eq_2 (aA @y5.eq_1 (@kP.eq_1)))))))))))))))))))))))))))))))))))))))
def wB2:=aA @aFX.eq_1 (aA @aFP.eq_1 (aA @aJM.eq_1 (aA @elS.eq_1 (aA @elS.eq_2 (aA @aG7.eq_1 (aA @lenOf.eq_1 (aA @fU.eq_1 (aA @fU.eq_2 (aA @mX.eq_1 (aA @mX.eq_2 (aA @uP.eq_1 (aA @uP.eq_2 (aA @fW.eq_1 (aA @fW.eq_2 (aA @jZ.eq_1 (aA @jZ.eq_2 (aA @jZ.eq_3 (aA @jZ.eq_4 (aA @jZ.eq_5 (aA @jZ.eq_6 (aA @gH.eq_1 (aA @gH.eq_2 (aA @gH.eq_3 (aA @dV.eq_1 (aA @dV.eq_2 (aA @mW.eq_1 (aA @mW.eq_2 (aA @tL.eq_1 (aA @tL.eq_2 (aA @D.pre.eq_1 (aA @D.pre.eq_2 (aA @D.nth.eq_1 (aA @D.nth.eq_2 (aA @D.nth.eq_3 (aA @D.size.eq_1 (aA @D.size.eq_2 (aA @D.size.eq_3 (aA @D.size.eq_4 (@D.len.eq_1)))))))))))))))))))))))))))))))))))))))
def wB3:=aA @D.len.eq_2 (aA @gU.eq_1 (aA @gU.eq_2 (aA @gU.eq_3 (aA @fL.eq_1 (aA @fL.eq_2 (aA @fL.eq_3 (aA @kG.eq_1 (aA @kG.eq_2 (aA @kG.eq_3 (aA @D.setN.eq_1 (aA @D.setN.eq_2 (aA @D.setN.eq_3 (aA @D.noOwn.eq_1 (aA @D.noOwn.eq_2 (aA @D.noOwn.eq_3 (aA @D.noOwn.eq_4 (aA @D.noOwn.eq_5 (aA @D.noOwn.eq_6 (aA @D.unown.eq_1 (aA @D.unown.eq_2 (aA @D.unown.eq_3 (aA @D.unown.eq_4 (aA @D.unown.eq_5 (aA @D.unown.eq_6 (aA @D.app.eq_1 (aA @D.app.eq_2 (aA @jC.eq_1 (aA @jC.eq_2 (aA @List.replicate.eq_1.{0} (aA @List.replicate.eq_2.{0} (aA @aJH.eq_1 (aA @aMt.eq_1 (aA @qS.eq_1 (aA @qS.eq_2 (aA @qS.eq_3 (aA @unT.eq_1 (aA @unT.eq_2 (aA @aGW.eq_1 (@aGW.eq_2)))))))))))))))))))))))))))))))))))))))
def wB4:=aA @aAS.eq_1 (aA @aAS.eq_2 (aA @aAS.eq_3 (aA @D.isOne.eq_1 (aA @D.isOne.eq_2 (aA @D.isOne.eq_3 (aA @D.isOne.eq_4 (aA @D.caps.eq_1 (aA @D.caps.eq_2 (aA @D.caps.eq_3 (aA @D.list.eq_1 (aA @D.list.eq_2 (aA @pS.eq_1 (aA @pS.eq_2 (aA @cT.eq_1 (aA @cT.eq_2 (aA @c7.eq_1 (aA @c7.eq_2 (aA @c7.eq_3 (aA @c7.eq_4 (aA @c7.eq_5 (aA @c7.eq_6 (aA @c7.eq_7 (aA @c7.eq_8 (aA @c7.eq_9 (aA @wN.eq_1 (aA @aCx.eq_1 (aA @aCx.eq_2 (aA @wS.eq_1 (aA @wS.eq_2 (aA @wS.eq_3 (aA @u6.eq_1 (aA @u6.eq_2 (aA @u6.eq_3 (aA @u6.eq_4 (aA @u6.eq_5 (aA @rM.eq_1 (aA @rM.eq_2 (aA @rY.eq_1 (@rY.eq_2)))))))))))))))))))))))))))))))))))))))
def wB5:=aA @aAv.eq_1 (aA @qP.eq_1 (aA @qP.eq_2 (aA @aPz.eq_1 (aA @aPz.eq_2 (aA @vX.eq_1 (aA @vX.eq_2 (aA @vX.eq_3 (aA @vX.eq_4 (aA @eqO.eq_1 (aA @eqO.eq_2 (aA @aBW.eq_1 (aA @aBW.eq_2 (aA @xO.eq_1 (aA @s5.eq_1 (aA @s5.eq_2 (@s5.eq_3))))))))))))))))
def wB:=aA @wB0 (aA @wB1 (aA @wB2 (aA @wB3 (aA @wB4 (@wB5)))))
theorem dR {P:PG} {s:St} {Q:Exit->St->Prop} {x:MC} (n:Nat) (S:Nat->St) (inv:Nat->Prop) (h0:gO s (S 0)) (hi:inv 0)
  (step:∀ i,i < n->inv i->decide ((i:Int) < (n:Int))=true->(0:Int)<=(i:Int)->eY P x (S i) (qL (fun s'=>∃ y,gO s' (S y)/\(y<=n/\inv y)/\n - y < n - i) Q))
  (done:inv n->decide ((n:Int) < (n:Int))=false->eY P x (S n) (qL (fun s'=>∃ y,gO s' (S y)/\(y<=n/\inv y)/\n - y < n - n) Q)):eY P (.loop x) s Q:=by
 refine d5 S (fun i=>i<=n/\inv i) (fun i=>n - i) 0 h0 ⟨aS _,hi⟩ ?_
 rintro i ⟨h1,h2⟩
 by_cases h:i < n
 ·exact step i h h2 (decide_eq_true (by omega)) (by omega)
 ·have e:i=n:=by omega
  subst e
  exact done h2 (decide_eq_false (by omega))
theorem fH {s':St} {n i:Nat} {S:Nat->St} {inv:Nat->Prop} (hw:gO s' (S (i + 1))) (hi:i < n) (h:inv (i + 1)):∃ y,gO s' (S y)/\(y<=n/\inv y)/\n - y < n - i:=⟨i + 1,hw,⟨by omega,h⟩,by omega⟩
theorem qO {P:PG} {s:St} {Q:Exit->St->Prop} {x:MC} (ts:List (Nat×Nat)) (n:Nat) (S:Nat->St) (inv:Nat->Prop) (hn:aG5 ts s) (h0:gO (aM4 ts s) (S 0)) (hi:inv 0)
  (step:∀ i,i < n->inv i->decide ((i:Int) < (n:Int))=true->(0:Int)<=(i:Int)->eY P x (S i) (qL (fun s'=>∃ y,gO s' (S y)/\(y<=n/\inv y)/\n - y < n - i) Q))
  (done:inv n->decide ((n:Int) < (n:Int))=false->eY P x (S n) (qL (fun s'=>∃ y,gO s' (S y)/\(y<=n/\inv y)/\n - y < n - n) Q)):eY P (.loop x) s Q:=by
 refine aBD ts S (fun i=>i<=n/\inv i) (fun i=>n - i) 0 hn h0 ⟨aS _,hi⟩ ?_
 rintro i ⟨h1,h2⟩
 by_cases h:i < n
 ·exact step i h h2 (decide_eq_true (by omega)) (by omega)
 ·have e:i=n:=by omega
  subst e
  exact done h2 (decide_eq_false (by omega))
theorem yA {p:Nat->Prop} {i:Nat} (h:∀ j,j < i->p j) (hi:p i):∀ j,j < i + 1->p j:=fun j hj=>by
 by_cases e:j=i
 ·subst e; exact hi
 ·exact h j (by omega)
def cK (q:Nat) (y:D):SV->SV
 | .ptr r off p=>if r=q then (if off=0/\p=[] then .d (.ptr y) else .any) else .ptr r off p
 | s=>if fW q s then .any else s
def cL (q:Nat) (y:D):i8->i8
 | []=>[]
 |(t,s) :: e=>(t,cK q y s) :: cL q y e
theorem aBI (q:Nat) (y:D):∀ (e:i8) (t:Nat),look (cL q y e) t=cK q y (look e t)
 | [],t=>by simp [cL,look,cK,fW,jZ]
 |(k,s) :: e,t=>by
  simp only [cL,look]
  by_cases h:k=t
  ·simp only [h,if_true]
  ·simp only [h,if_false]; exact aBI q y e t
theorem gI {s:St} (q:Nat) {x:D} (hq:s.o[q]?=some (.box x)):gO s ⟨cL q x.unown s.e,s.o.set q .dead⟩:=by
 intro c C a w hr
 focus
  have hql:=cV hq
  have hlen:=hr.wd.len
  obtain ⟨oc,hC⟩:∃ oc,C[q]?=some oc:=⟨C[q]'(by omega),List.getElem?_eq_getElem _⟩
  have hCl:=cV hC
  have hnC:=dS.1 hr.wd.nodup
  let C':=C.set q { oc with fp:=[] }
  have get:∀ (j:Nat) (od:OC),C'[j]?=some od->(j=q/\od={ oc with fp:=[] })\/(j≠q/\C[j]?=some od):=by
   intro j od hj
   rw [List.getElem?_set] at hj
   by_cases e:q=j
   ·rw [if_pos e,if_pos (by omega)] at hj; injection hj with hj; exact .inl ⟨e.symm,hj.symm⟩
   ·rw [if_neg e] at hj; exact .inr ⟨fun h=>e h.symm,hj⟩
  have hsub:∀ b∈fC C',b∈fC C/\b ∉ oc.fp:=by
   intro b hb
   obtain ⟨j,od,hj,hb'⟩:=dA.1 hb
   rcases get j od hj with ⟨_,rfl⟩|⟨hne,hj⟩
   ·cases hb'
   ·exact ⟨dA.2 ⟨j,od,hj,hb'⟩,fun h=>hnC.2 j q od oc hne hj hC b hb' h⟩
  have hmem:∀ b∈fC C',(b∈fC C\/w.heap.size<=b)/\b < w.heap.size:=fun b hb=>⟨.inl (hsub b hb).1,hr.wd.lt b (hsub b hb).1⟩
  have hg:=aWG (lL.refl w) (fun _=>False)
  have hX:∀ b,(fun _=>False:Nat->Prop) b->b∈fC C:=fun b hb=>hb.elim
  have hwd:RelW c (s.o.set q .dead) C' w:=by
   have hold:∀ (p r:Nat) (v:Value),(s.o.set q .dead)[p]?=some (.tag r v)->s.o[p]?=some (.tag r v):=by
    intro p r v hp
    rw [List.getElem?_set] at hp
    by_cases e:q=p
    ·rw [if_pos e] at hp
     split at hp
     ·injection hp with hp; cases hp
     ·cases hp
    ·rw [if_neg e] at hp; exact hp
   refine hr.wd.upd hg hX (by simp [C',hlen]) ?_ ?_ hmem (fun p r v hp=>.inl (hold p r v hp)) (fun p r v od _ h=>by
    by_cases e:q=r
    ·subst e
     rw [hC] at h
     injection h with h
     subst h
     exact ⟨{ oc with fp:=[] },by rw [List.getElem?_set]; simp [hCl],rfl⟩
    ·exact ⟨od,by rw [List.getElem?_set,if_neg e]; exact h,rfl⟩)
   ·intro j ob ocj h1 h2
    rcases get j ocj h2 with ⟨e,rfl⟩|⟨hne,h3⟩
    ·rw [e,List.getElem?_set,if_pos rfl,if_pos hql] at h1
     injection h1 with h1
     subst h1
     exact .inr rfl
    ·rw [List.getElem?_set,if_neg (fun h=>hne h.symm)] at h1
     exact .inl ⟨h1,h3,fun _ _ h=>h⟩
   ·refine dS.2 ⟨fun j od hj=>?_,fun j i od oe hne hj hi b hb hb'=>?_⟩
    ·rcases get j od hj with ⟨_,rfl⟩|⟨_,hj⟩
     ·exact aL
     ·exact hnC.1 j od hj
    ·rcases get j od hj with ⟨_,rfl⟩|⟨_,hj⟩
     ·cases hb
     ·rcases get i oe hi with ⟨_,rfl⟩|⟨_,hi⟩
      ·cases hb'
      ·exact hnC.2 j i od oe hne hj hi b hb hb'
  refine ⟨C',hr.tmps,hr.defers,fun t=>?_,hwd,hr.fix⟩
  simp only [aBI]
  have hv:=hr.env t
  generalize look s.e t=sv at *
  generalize a.tmps.getD t Go.undef=v at *
  have other:∀ sv:SV,(∀ xs,sv≠.tup xs)->jZ q sv=false->dN w (Ms c C) C sv v->dN w (Ms c C') C' sv v:=by
   intro sv hn h0 hv
   refine rX (gK.upd (X:=fun _=>False) hg hX hmem ?_ ?_ ?_)
   ·intro r od h1 h2
    have hne:r≠q:=fun e=>by rw [e,h0] at h1; cases h1
    exact ⟨od,by rw [List.getElem?_set,if_neg (fun h=>hne h.symm)]; exact h2,rfl,rfl⟩
   ·intro r od od' h1 h2 h3 h4
    subst h1
    have hne:r≠q:=fun e=>by rw [e] at h0; simp [jZ] at h0
    rw [List.getElem?_set,if_neg (fun h=>hne h.symm),h2] at h4
    injection h4 with h4
    subst h4
    exact ⟨h3,fun h=>h⟩
   ·cases sv<;>first|exact hv|exact absurd rfl (hn _)
  cases sv with
  | ptr r off p =>
   simp only [cK]
   by_cases e:r=q
   ·subst e
    rw [if_pos rfl]
    by_cases e2:off=0/\p=[]
    ·rw [if_pos e2]
     obtain ⟨rfl,rfl⟩:=e2
     obtain ⟨oc1,h1,h2⟩:=hv
     rw [hC] at h1
     injection h1 with h1
     subst h1
     obtain ⟨cs,fps,h3,h4,h5⟩:=hr.wd.obs r _ oc hq hC
     subst h2
     have hblk:¬ Ms c C' oc.blk:=by
      rintro (hm|hm)
      ·exact hr.wd.apart oc.blk (dA.2 ⟨r,oc,hC,by rw [h5]; simp⟩) hm
      ·exact (hsub oc.blk hm).2 (by rw [h5]; simp)
     refine oE (iA _ _ _ ?_ ?_ h4) (jT.of_row h3 hblk)
     ·intro b hb
      rcases hb with hb|hb
      ·exact .inl hb
      ·exact .inr (hsub b hb).1
     ·intro b hb hm
      rcases hm with hm|hm
      ·exact hr.wd.apart b (dA.2 ⟨r,oc,hC,by rw [h5]; simp [hb]⟩) hm
      ·exact (hsub b hm).2 (by rw [h5]; simp [hb])
    ·rw [if_neg e2]; trivial
   ·rw [if_neg e]
    exact other _ (fun xs h=>by cases h) (by simp [jZ,e]) hv
  | tup xs =>
   simp only [cK]
   split
   ·trivial
   ·rename_i h0
    obtain ⟨vs,k1,k2,k3⟩:=hv
    refine ⟨vs,k1,k2,fun i sx u hsi hu=>?_⟩
    have hx0:jZ q sx=false:=by
     simp only [fW,aT,not_exists,not_and,Bool.not_eq_true] at h0
     exact h0 sx (aM hsi)
    refine gK.upd (X:=fun _=>False) hg hX hmem ?_ ?_ (k3 i sx u hsi hu)
    ·intro r od h1 h2
     have hne:r≠q:=fun e=>by rw [e,hx0] at h1; cases h1
     exact ⟨od,by rw [List.getElem?_set,if_neg (fun h=>hne h.symm)]; exact h2,rfl,rfl⟩
    ·intro r od od' h1 h2 h3 h4
     subst h1
     have hne:r≠q:=fun e=>by rw [e] at hx0; simp [jZ] at hx0
     rw [List.getElem?_set,if_neg (fun h=>hne h.symm),h2] at h4
     injection h4 with h4
     subst h4
     exact ⟨h3,fun h=>h⟩
  | any=>trivial
  | undef=>exact hv
  | d y=>exact other _ (fun xs h=>by cases h) rfl hv
  | nil=>exact hv
  | own r =>
   simp only [cK]
   split
   ·trivial
   ·rename_i h0; exact other _ (fun xs h=>by cases h) (by simpa [fW] using h0) hv
  | el r es i off p =>
   simp only [cK]
   split
   ·trivial
   ·rename_i h0; exact other _ (fun xs h=>by cases h) (by simpa [fW] using h0) hv
  | vw r =>
   simp only [cK]
   split
   ·trivial
   ·rename_i h0; exact other _ (fun xs h=>by cases h) (by simpa [fW] using h0) hv
  | win r es lo =>
   simp only [cK]
   split
   ·trivial
   ·rename_i h0; exact other _ (fun xs h=>by cases h) (by simpa [fW] using h0) hv
theorem aH6 {s:St} (q:Nat) {x:D} (hq:s.o[q]?=some (.val x)):gO s ⟨w8 q x.unown s.e,s.o.set q .dead⟩:=fun c C a w hr=>by
 have h:=aB0 q hr
 unfold aFF at h
 rw [hq] at h
 exact h
def D.det:D->Bool
 | .int _ _=>true
 | .bool _=>true
 | .str _=>true
 | .lnk _ _=>true
 | .st xs=>xs.det
 | .nil=>true
 | .cons x xs=>x.det && xs.det
 | _=>false
theorem aQc {w w':World} {M M':Nat->Prop}:∀ (d:D) (cs cs':List Value) (fp fp':List Nat),d.det=true->d.rep w M cs fp->d.rep w' M' cs' fp'->cs=cs':=by
 intro d
 induction d with
 | int k n=>intro cs cs' fp fp' _ h h'; exact h.1.trans h'.1.symm
 | bool b=>intro cs cs' fp fp' _ h h'; exact h.1.trans h'.1.symm
 | str s=>intro cs cs' fp fp' _ h h'; exact h.1.trans h'.1.symm
 | lnk q v=>intro cs cs' fp fp' _ h h'; exact h.1.trans h'.1.symm
 | nil=>intro cs cs' fp fp' _ h h'; exact h.1.trans h'.1.symm
 | st xs ih=>intro cs cs' fp fp' hd h h'; exact ih cs cs' fp fp' hd h h'
 | cons x xs ih1 ih2 =>
  intro cs cs' fp fp' hd h h'
  obtain ⟨c1,c2,f1,f2,rfl,rfl,h1,h2⟩:=h
  obtain ⟨d1,d2,g1,g2,rfl,rfl,k1,k2⟩:=h'
  simp only [D.det,aC] at hd
  rw [ih1 c1 d1 f1 g1 hd.1 h1 k1,ih2 c2 d2 f2 g2 hd.2 h2 k2]
 | _=>intro cs cs' fp fp' hd; simp [D.det] at hd
theorem aVO {s:St} (t q:Nat) {x:D} (ht:look s.e t=.own q) (hq:s.o[q]?=some (.val x)) (hx:x.noOwn=true):gO s ⟨(t,.d x) :: s.e,s.o⟩:=by
 intro c C a w hr
 refine ⟨C,hr.tmps,hr.defers,fun t'=>?_,hr.wd,hr.fix⟩
 show dN w _ _ (look ((t,.d x) :: s.e) t') _
 simp only [look]
 by_cases e:t=t'
 ·subst e
  rw [if_pos rfl]
  have h:=hr.env t
  rw [ht] at h
  obtain ⟨oc,h2,hv⟩:=h
  obtain ⟨cs,h3,h4⟩:=hr.wd.obs q _ oc hq h2
  have hf:=mM x cs _ hx h3
  rw [hf] at h3
  exact ⟨cs,h3,hv.trans h4⟩
 ·rw [if_neg e]; exact hr.env t'
theorem aTg {s:St} (t q:Nat) {x:D} (ht:look s.e t=.d x) (hq:s.o[q]?=some (.val x)) (hx:x.det=true):gO s ⟨(t,.own q) :: s.e,s.o⟩:=by
 intro c C a w hr
 refine ⟨C,hr.tmps,hr.defers,fun t'=>?_,hr.wd,hr.fix⟩
 show dN w _ _ (look ((t,.own q) :: s.e) t') _
 simp only [look]
 by_cases e:t=t'
 ·subst e
  rw [if_pos rfl]
  have h:=hr.env t
  rw [ht] at h
  obtain ⟨cs,h3,h4⟩:=h
  have hl:=hr.wd.len
  have hql:=cV hq
  obtain ⟨oc,h2⟩:∃ oc,C[q]?=some oc:=⟨C[q]'(by omega),List.getElem?_eq_getElem _⟩
  obtain ⟨cs',h5,h6⟩:=hr.wd.obs q _ oc hq h2
  exact ⟨oc,h2,by rw [h4,h6,aQc x cs cs' _ _ hx h3 h5]⟩
 ·rw [if_neg e]; exact hr.env t'
section
variable {P : Program} {n r : Nat} {ops : Array Oper} {Q : Exit -> Act -> World -> Prop}
def qX (ops:Array Oper):Bool:=ops.all fun o=>match o.op with
 | .defer _=>false
 | _=>true
theorem aUy {o:Oper} {a:Act} {w:World} {K:Act->World->Prop} (hd:∀ c,o.op≠.defer c) (h:o.wp P a w K Q):o.wpIn (Fence.wide.inRound r) n P a w K Q:=by
 refine ⟨fun f _=>trivial,?_⟩
 rw [Oper.semAt_plain _ _ _ hd]
 unfold Oper.wp at h
 generalize (execOp a.eval o).run P w=x at h ⊢
 have hdep:(Fence.wide.inRound r).depth.isSome=true->1<=n:=fun h=>by cases h
 cases x with
 | ok y w' =>
  cases y with
  | value v=>exact h
  | skip=>exact h
  | defer d=>exact h
  | enter f args=>exact ⟨hdep,CallsIn.inRound r (callsIn_wide.2 h)⟩
  | row row args=>exact ⟨hdep,fun c cs _=>by obtain ⟨v,w2,h1,h2⟩:=h c cs; exact ⟨v,w2,h1,stepsIn_wide.2 h2⟩⟩
  | round l f t as bd=>exact h.elim
  | _=>exact h
 | halt hv w' =>
  cases hv<;>exact h
theorem aCH (hd:qX ops=true) (hQ:∀ a w,¬ Q .outgrown a w):∀ (l:List Nat) (a:Act) (w:World),wpOps P ops Q l a w->wpOpsIn (Fence.wide.inRound r) n P ops Q l a w
 | [],a,w,h=>h
 | i :: l,a,w,h=>by
  simp only [wpOps] at h
  simp only [wpOpsIn]
  cases ho:ops[i]? with
  | none=>rw [ho] at h; exact aCH hd hQ l a w h
  | some o =>
   rw [ho] at h
   simp only at h ⊢
   have hdo:∀ c,o.op≠.defer c:=fun c e=>by
    have:=Array.all_eq_true.1 hd i (by have:=(Array.getElem?_eq_some_iff.1 ho).1; exact this)
    rw [(Array.getElem?_eq_some_iff.1 ho).2,e] at this
    cases this
   split
   ·rename_i hw
    rw [if_pos hw] at h
    rcases h with h|⟨_,a0,w0,h⟩
    ·exact Oper.wpIn_mono (fun a' w' h'=>aCH hd hQ l a' w' h') (aUy hdo h)
    ·exact absurd h (hQ a0 w0)
   ·rename_i hw
    rw [if_neg hw] at h
    exact ⟨fun f _=>trivial,aCH hd hQ l _ w h⟩
theorem vZ {id:Nat} {a:Act} {w:World} (hd:qX ops=true) (hQ:∀ a w,¬ Q .outgrown a w) (hm:P.follows .mixedOrders=true)
  (h:wpAny P .any ops Q ops.size (Array.replicate ops.size false) a { w with drawn:=w.drawn + 1 }):(Code.region id ops true).wpIn (Fence.wide.inRound r) n P Q a w :=
 wpIn_region_draw fun t=>by
  simp only [Region.schedule,hm,aP,if_true]
  exact aCH hd hQ _ _ _ (wpAny_sound ops.size t _ a _ h)
theorem aC9 {id:Nat} {a:Act} {w:World} (hd:qX ops=true) (hQ:∀ a w,¬ Q .outgrown a w) (h:wpList P ops Q ops.toList a w):(Code.region id ops false).wpIn (Fence.wide.inRound r) n P Q a w :=
 wpIn_region (aCH hd hQ _ _ _ (by rw [List.range_eq_range',<-Array.length_toList,wpOps_eq_wpList ops.toList 0 (by simp)]; exact h))
end
section
variable {c : Ctx} {ob : List Ob} {C : List OC} {E : Nat -> SV} {a : Act} {w : World} {s : St} {ops : Array Oper} {r n : Nat}
theorem aAk {id:Nat} {Q:Exit->Act->World->Prop} {Q':(Nat->SV)->Prop} (hnd:qX ops=true) (hno:∀ a w,¬ Q .outgrown a w) (hm:c.P.follows .mixedOrders=true) (hB:Region.lexB .any ops=true) (hd:∀ (j:Nat) (o:Oper) (d:Nat),ops[j]?=some o->o.dst=some d->c.lo<=d/\d < c.n)
  (hr:RelE c ob C E a w) (h:aBZ c ob C ops Q' ops.toList E) (hQ:∀ E a w,RelE c ob C E a w->Q' E->Q .normal a w):(Code.region id ops true).wpIn (Fence.wide.inRound r) n c.P Q a w:=by
 simp only [Region.lexB,aC] at hB
 refine vZ hnd hno hm (wQ (Q:=Q') hd hQ _ _ E _ _ ?_ ?_)
 ·have hx:lL w { w with drawn:=w.drawn + 1 }:=⟨rfl,rfl,rfl,aD _,fun _ _=>rfl⟩
  exact ⟨hr.tmps,hr.defers,fun t=>(hr.env t).ext hx,hr.wd.ext hx,hr.fix⟩
 ·have:=w3 (c:=c) (ob:=ob) (C:=C) (md:=.any) ops.toList 0 (Array.replicate ops.size false) E (by simp) (by simpa using hB.2) h
  simpa using this
theorem aCP {ts un:List Nat} {p:MP} {id:Nat} {K:St->Prop} {Q:Act->World->Prop} (hnd:qX ops=true) (hp:aAA c.P c.nn ops ts=some (un,p)) (hr:Rel c s C a w) (hx:iH c.G un p [] s K) (hQ:∀ s C a w,Rel c s C a w->K s->Q a w):(Code.region id ops true).wpIn (Fence.wide.inRound r) n c.P (fun e a w=>e=.normal/\Q a w) a w:=by
 unfold aAA at hp
 split at hp
 ·cases hp
 ·rename_i k r
  split at hp
  ·rename_i sk hd
   split at hp
   ·rename_i hc
    simp only [aC,decide_eq_true_eq] at hc
    obtain ⟨⟨⟨h1,h2⟩,h3⟩,h4⟩:=hc
    obtain ⟨p',hp1,hp2⟩:=aJ.1 hp
    injection hp2 with e1 e2
    subst e1 e2
    have hx2:lL w { w with drawn:=w.drawn + 1 }:=⟨rfl,rfl,rfl,aD _,fun _ _=>rfl⟩
    have hr':Rel c s C a { w with drawn:=w.drawn + 1 }:=⟨hr.tmps,hr.defers,fun t=>(hr.env t).ext hx2,hr.wd.ext hx2,hr.fix⟩
    have:=(aCk (c:=c) (ops:=ops) (un:=r.take k) (K:=K) (Q:=fun e a w=>e=.normal/\Q a w) h2 (fun s C a w h1 h2=>⟨rfl,hQ s C a w h1 h2⟩) (fun ch a w h=>by cases h.1) sk p' true true _ ops.size [] s C a _ (fun _=>False) h3 hp1 h4 hr' (fun _ b hb=>hb.elim) hx).1 rfl
    exact vZ hnd (fun a w h=>by cases h.1) h1 (xG _ _ _ _ this)
   ·cases hp
  ·cases hp
end
def lN:Code->Bool
 | .skip=>true
 | .region _ ops _=>qX ops
 | .seq a b=>lN a && lN b
 | .cond _ a b=>lN a && lN b
 | .block _ b=>lN b
 | .exit _=>true
 | _=>false
def v6:MC->Bool
 | .skip=>true
 | .reg _ _ _=>true
 | .any _ _ _=>true
 | .seq a b=>v6 a && v6 b
 | .cond _ a b=>v6 a && v6 b
 | .block _ b=>v6 b
 | .exit _=>true
 | .gh m=>v6 m
 | _=>false
def aSc (c:Ctx) (r:Nat) (m:MC) (s:St) (Q:Exit->St->Prop):Prop :=
 ∀ n lv code,comp c.P c.nn lv code=some m->lN code=true->∀ C a w,Rel c s C a w->code.wpIn (Fence.wide.inRound r) n c.P (fun e a' w'=>∃ s' C',Q e s'/\Rel c s' C' a' w') a w
section
variable {c : Ctx} {r : Nat} {s : St} {Q : Exit -> St -> Prop}
theorem aKr {draw:Bool} {lv:List Nat} {ms:List MOp} (hx:fI c.G ms s (fun s'=>Q .normal ⟨nE lv s'.e,s'.o⟩)):aSc c r (.reg draw lv ms) s Q:=by
 intro n lv' code hc hnd C a w hr
 obtain ⟨id,ops,rfl,h1,h2⟩:=aGX hc
 have hnd:qX ops=true:=hnd
 refine wpIn_mono (Q:=fun e a' w'=>e=.normal/\∃ s' C',Q .normal s'/\Rel c s' C' a' w') ?_ (fun e a' w' ⟨h,h'⟩=>by subst h; exact h')
 cases draw with
 | true =>
  obtain ⟨h3,h4⟩:=h2 rfl
  refine aAk (C:=C) hnd (fun a w h=>by cases h.1) h3 h4 (fun j o d hj=>uN _ _ h1 o (aM (by rw [Array.getElem?_toList]; exact hj)) d) hr.relE (qV _ _ s _ h1 hx) ?_
  rintro E a' w' hE ⟨e',hK,rfl⟩
  exact ⟨rfl,_,C,hK,Rel.weak (s:=⟨e',s.o⟩) ⟨hE.tmps,hE.defers,hE.env,hE.wd,hE.fix⟩ (mG lv e')⟩
 | false =>
  refine aC9 hnd (fun a w h=>by cases h.1) (kV (K:=fun s'=>Q .normal ⟨nE lv s'.e,s'.o⟩) ?_ _ _ s C a w h1 hr hx)
  intro s' C' a' w' hr' hK
  exact ⟨rfl,_,C',hK,hr'.weak (mG lv s'.e)⟩
theorem aME {un lv:List Nat} {p:MP} {J:St->Prop} (hx:iH c.G un p [] s fun s'=>J ⟨nE lv s'.e,s'.o⟩) (hJ:∀ s',J s'->∃ s1,gO s' s1/\Q .normal s1):aSc c r (.any un lv p) s Q:=by
 intro n lv' code hc hnd C a w hr
 obtain ⟨id,ops,ts,rfl,hp⟩:=aGj hc
 have hnd:qX ops=true:=hnd
 refine wpIn_mono (Q:=fun e a' w'=>e=.normal/\∃ s' C',Q .normal s'/\Rel c s' C' a' w') ?_ (fun e a' w' ⟨h,h'⟩=>by subst h; exact h')
 refine aCP hnd hp hr hx ?_
 intro s' C' a' w' hr' hK
 obtain ⟨s1,h1,h2⟩:=hJ _ hK
 obtain ⟨C1,h3⟩:=(hr'.weak (e':=nE lv s'.e) (mG lv s'.e)).weaken h1
 exact ⟨s1,C1,h2,h3⟩
end
theorem jX {c:Ctx} {r:Nat}:∀ (m:MC) (s:St) (Q:Exit->St->Prop),v6 m=true->eY c.G m s Q->aSc c r (jB m) s Q
 | .gh m,s,Q,hf,h=>by
  obtain ⟨α,S,hk,h⟩:=h
  intro n lv code hc hnd C a w hr
  obtain ⟨x,C',hr'⟩:=hk c C a w hr
  exact jX m (S x) Q hf (h x) n lv code hc hnd C' a w hr'
 | .skip,s,Q,_,h=>by
  intro n lv code hc hnd C a w hr
  cases code<;>simp only [comp] at hc
  case skip=>exact wpIn_skip ⟨s,C,h,hr⟩
  all_goals first
   |(split at hc<;>(try split at hc)<;>(try split at hc)<;>first|cases hc|(injection hc with hc; cases hc))
   |(simp only [aJ] at hc; obtain ⟨_,_,hc⟩:=hc; cases hc)
   |(injection hc with hc; cases hc)
   | cases hc
 | .exit i,s,Q,_,h=>by
  intro n lv code hc hnd C a w hr
  have:=aDV hc
  subst this
  exact wpIn_exit ⟨s,C,h,hr⟩
 | .any un lv p,s,Q,_,h=>by
  obtain ⟨J,h1,h2⟩:=h
  exact aME h1 h2
 | .reg d lv ms,s,Q,_,h=>aKr h
 | .seq x y,s,Q,hf,h=>by
  simp only [v6,aC] at hf
  intro n lv code hc hnd C a w hr
  obtain ⟨a',b',rfl,h1,h2⟩:=aGN hc
  simp only [lN,aC] at hnd
  refine wpIn_seq (wpIn_mono (jX x s _ hf.1 h n lv a' h1 hnd.1 C a w hr) ?_)
  rintro e a1 w1 ⟨s1,C1,hq,hr1⟩
  cases e with
  | normal=>exact jX y s1 Q hf.2 hq n lv b' h2 hnd.2 C1 a1 w1 hr1
  | _=>exact ⟨s1,C1,hq,hr1⟩
 | .cond p x y,s,Q,hf,h=>by
  simp only [v6,aC] at hf
  simp only [eY] at h
  intro n lv code hc hnd C a w hr
  obtain ⟨q,a',b',rfl,h3,h4,h5⟩:=aDJ hc
  simp only [lN,aC] at hnd
  split at h
  ·rename_i b hb
   have hv:=i6 hr h3
   rw [hb] at hv
   exact wpIn_cond_split (dZ.1 hv) (fun hh=>jX x s Q hf.1 (h.1 hh) n lv a' h4 hnd.1 C a w hr) (fun hh=>jX y s Q hf.2 (h.2 hh) n lv b' h5 hnd.2 C a w hr)
  ·exact h.elim
 | .block i x,s,Q,hf,h=>by
  intro n lv code hc hnd C a w hr
  obtain ⟨b',rfl,h1⟩:=aBC hc
  refine wpIn_block (wpIn_mono (jX x s _ hf h n lv b' h1 hnd C a w hr) ?_)
  rintro e a1 w1 ⟨s1,C1,hq,hr1⟩
  cases e with
  | exit j =>
   simp only [inB] at hq
   simp only [Exit.inBlock]
   split
   ·rename_i hi; rw [if_pos hi] at hq; exact ⟨s1,C1,hq,hr1⟩
   ·rename_i hi; rw [if_neg hi] at hq; exact ⟨s1,C1,hq,hr1⟩
  | _=>exact ⟨s1,C1,hq,hr1⟩
 | .loop _,_,_,hf,_=>by cases hf
 | .ret,_,_,hf,_=>by cases hf
 | .hole,_,_,hf,_=>by cases hf
def mE:Code->Option Code
 | .rangeFunc _ _ _ b=>some b
 | .seq a b=>(mE a).or (mE b)
 | .cond _ a b=>(mE a).or (mE b)
 | .block _ b=>mE b
 | .loop b=>mE b
 | _=>none
theorem aJi (ps:List (List Nat)) {P:PG} {body:Option Code} {m:MC} {lo n0:Nat} {lv:List (Nat×List Nat)} (hb:(body.bind fun c=>(mE c).bind (comp P.P (lo,n0) lv))=some m) (hnd:(body.bind fun c=>(mE c).map lN)=some true) (hf:v6 (cT ps m)=true)
  {s:St} {Q:Exit->St->Prop} (h:eY P (cT ps m) s Q):∃ b,body.bind mE=some b/\∀ (c:Ctx),c.G=P->c.nn=(lo,n0)->∀ C a w,Rel c s C a w->∀ r n,b.wpIn (Fence.wide.inRound r) n P.P (fun e a' w'=>∃ s' C',Q e s'/\Rel c s' C' a' w') a w:=by
 cases body with
 | none=>cases hb
 | some code =>
  simp only [aU] at hb hnd
  cases hc:mE code with
  | none=>rw [hc] at hb; cases hb
  | some b =>
   rw [hc] at hb hnd
   simp only [aU,aW,Option.some.injEq] at hb hnd
   refine ⟨b,hc,fun c hP hn C a w hr r n=>?_⟩
   subst hP
   have he:jB (cT ps m)=m:=(oI ps m).trans (aDd b m hb)
   have:=jX (c:=c) (r:=r) (cT ps m) s Q hf h
   rw [he] at this
   exact this n lv b (by rw [hn]; exact hb) hnd C a w hr
def kS {α:Type} (p:α->Bool) (xs:List α):Int:=match xs.findIdx? p with
 | some i=>(i:Int)
 | none=>-1
theorem rT {α:Type} {p:α->Bool} {xs:List α} {i:Nat} {r:α} (hr:xs[i]?=some r) (hp:p r=true) (h:∀ (j:Nat) (s:α),j < i->xs[j]?=some s->p s=false):kS p xs=(i:Int):=by
 have hi:=cV hr
 have e:xs.findIdx? p=some i:=by
  rw [List.findIdx?_eq_some_iff_getElem]
  refine ⟨hi,?_,fun j hj=>?_⟩
  ·rw [List.getElem?_eq_getElem hi] at hr; injection hr with hr; rw [hr]; exact hp
  ·have:=h j (xs[j]'(by omega)) hj (List.getElem?_eq_getElem _)
   simp [this]
 simp only [kS,e]
theorem qA {α:Type} {p:α->Bool} {xs:List α} (h:∀ (j:Nat) (s:α),xs[j]?=some s->p s=false):kS p xs=-1:=by
 have e:xs.findIdx? p=none:=by
  rw [List.findIdx?_eq_none_iff]
  intro x hx
  obtain ⟨j,hj⟩:=List.getElem?_of_mem hx
  exact h j x hj
 simp only [kS,e]
theorem r6 {α:Type} {p:α->Bool} {xs:List α}:decide (0<=kS p xs)=xs.any p:=by
 cases h:xs.findIdx? p with
 | none =>
  have h1:=h
  rw [List.findIdx?_eq_none_iff] at h
  have:xs.any p=false:=by rw [aR]; intro x hx; simp [h x hx]
  simp [kS,h1,this]
 | some i =>
  have h1:=h
  rw [List.findIdx?_eq_some_iff_getElem] at h
  obtain ⟨hi,hp,_⟩:=h
  have:xs.any p=true:=by rw [aT]; exact ⟨_,List.getElem_mem hi,hp⟩
  simp [kS,h1,this]
theorem aF7 {α:Type} {p:α->Bool} {xs:List α} (h:0<=kS p xs):∃ (i:Nat) (r:α),kS p xs=(i:Int)/\xs[i]?=some r/\p r=true:=by
 cases e:xs.findIdx? p with
 | none=>simp [kS,e] at h
 | some i =>
  have h1:=e
  rw [List.findIdx?_eq_some_iff_getElem] at h1
  obtain ⟨hi,hp,_⟩:=h1
  exact ⟨i,xs[i],by simp [kS,e],List.getElem?_eq_getElem hi,hp⟩
theorem aL3 {α:Type} {p:α->Bool} {xs:List α} (h:¬ 0<=kS p xs):kS p xs=-1:=by
 cases e:xs.findIdx? p with
 | none=>simp [kS,e]
 | some i=>simp [kS,e] at h
theorem eJ {o:List Ob} {K:SV->Prop} {n:Int}:eU o none (iD n) K=K (.d (.int .i64 n)):=by simp [iD,eU,D.noOwn]
theorem tM (v:List Int) (n:Int):v.any (fun x=>decide (n=x))=v.contains n:=by
 induction v with
 | nil=>rfl
 | cons a v ih=>simp only [aN,aQ,ih]; congr 1
end Go.Pe
