/- Offices among the laws' helpers: sizes, copies, equality; walked; Entries of a ledger: strings.Trim, walked; what an entry is; Valid offices, walked; Is it an office? walked, and the law; Consoles: an office and a log; sizes, copies, equality; are they valid? walked, and the law; Texts of cases (strings.Join, decimals, caseText, l25Text), walked; The text of a console, walked, and the law of FormatConsole; A case of an office by its number, its text, walked; the law of CaseText; Marks on lists of numbers, walked; Marks as text: on lists of texts, walked; Marks on offices, walked -/
import Derived.Test.YtjmobminbckhjaaGreatDoorW1
import Derived.Test.YtjmobminbckhjaaGreatDoorShelf
import Derived.Lib.AsciiSet
import Derived.Test.YtjmobminbckhjaaGreatDoorPeD
import Derived.Test.YtjmobminbckhjaaGreatDoorMc1
import Derived.Test.YtjmobminbckhjaaGreatDoorMc2
import Derived.Test.YtjmobminbckhjaaGreatDoorMc3
import Derived.Test.YtjmobminbckhjaaGreatDoorMc4
import Derived.Test.YtjmobminbckhjaaGreatDoorMc5
import Derived.Test.YtjmobminbckhjaaGreatDoorMc6
import Derived.Test.YtjmobminbckhjaaGreatDoorMc7
import Derived.Test.YtjmobminbckhjaaGreatDoorMc8
set_option maxRecDepth 100000
set_option maxHeartbeats 4000000
set_option linter.all false
open And renaming intro->bD
open Bool renaming and_eq_true->aQ, and_true->aW, and_false->bT, false_and->bU
open Int renaming toNat_natCast->aB, add_assoc->bV
open List renaming mem_of_getElem?->aD, length_append->aE, length_cons->aF, replicate->aG, length_nil->aH, append_assoc->aI, length_take->aJ, cons_append->aK, length_map->aM, append_nil->aN, take_length->aP, nil_append->aR, all_eq_true->aS, mem_of_mem_take->aT, dropWhile_cons->aU, drop_eq_getElem_cons->aV, set_append_right->aX, mem_cons_of_mem->aY, mem_cons_self->aZ, set_cons_zero->a6, map_cons->a7, all_eq_false->a8, length_drop->bA, drop_length->bB, take_of_length_le->bE, eq_nil_or_concat->bF, concat_eq_append->bG, mem_range->bH, replicate_zero->bJ, mem_singleton->bK, mem_append->bP, map_append->bQ, nodup_nil->bR, map_map->bW, map_nil->bX, range->b6
open Nat renaming reduceBEq->aA, min_eq_left->aL, sub_self->aO, zero_le->bL, add_mul->bY, one_mul->bZ, reduceEqDiff->b7, reduceAdd->b8, reduceSub->b9, reduceLT->cA
open Option renaming map_some->aC, getD_some->bC, bind_some->bM
namespace Go.Pe.Tryz
open Go.Proofs.Tryz
structure Cs where
 i:Int
 a:Int
 d:Int
 h:List Int
def Cs.p (x:Cs) (dh:D):D:=.st (.cons (.int .i64 x.i) (.cons (.int .i64 x.a) (.cons (.int .i64 x.d) (.cons dh .nil))))
def Cs.s (x:Cs):D:=x.p (.sl false 1 (dl iD x.h))
def Cs.o (x:Cs):D:=x.p (.sl true 1 (dl iD x.h))
def Cs.ok0 (x:Cs):Prop:=x.h.length<=1048576
structure Off where
 day:Int
 cs:List Cs
 kept:Int
 moved:Int
 led:List (List UInt8)
def dU (o:Off) (dc dd:D):D:=.st (.cons (.int .i64 o.day) (.cons dc (.cons (.int .i64 o.kept) (.cons (.int .i64 o.moved) (.cons dd .nil)))))
def Off.s (o:Off):D:=dU o (.sl false 4 (dl Cs.s o.cs)) (.sl false 1 (dl D.str o.led))
def Off.o (o:Off):D:=dU o (.sl true 4 (dl Cs.o o.cs)) (.sl true 1 (dl D.str o.led))
def aLZ (L:List (List UInt8)):Prop:=L.length<=1048576/\∀ s∈L,s.length<=1048576
def o9 (xs:List Cs):Prop:=xs.length<=1048576/\∀ x∈xs,x.ok0
def Off.ok0 (o:Off):Prop:=o9 o.cs/\aLZ o.led
theorem cR (L:List (List UInt8)):(dl D.str L).noOwn=true:=rP (fun _=>rfl) L
theorem fA (L:List (List UInt8)):(dl D.str L).unown=dl D.str L:=uG (fun _=>rfl) L
theorem aHz (L:List (List UInt8)):(dl D.str L).allOwn=true:=mT (fun _=>rfl) L
theorem aWF (x:Cs):x.s.noOwn=true:=by simp [Cs.s,Cs.p,D.noOwn,cY]
theorem aWD (x:Cs):x.s.unown=x.s:=by simp [Cs.s,Cs.p,D.unown,dM]
theorem aWV (x:Cs):x.o.unown=x.s:=by simp [Cs.o,Cs.s,Cs.p,D.unown,dM]
theorem aWZ (x:Cs):x.o.allOwn=true:=by simp [Cs.o,Cs.p,D.allOwn,mT vL]
theorem aWW (x:Cs):x.o.noOwn=false:=by simp [Cs.o,Cs.p,D.noOwn]
theorem aWE (x:Cs):x.s.isV=true:=rfl
theorem aWC (x:Cs):x.s.size=4:=rfl
theorem aW0 (x:Cs):x.o.isV=true:=rfl
theorem aWY (x:Cs):x.o.size=4:=rfl
theorem cX (xs:List Cs):(dl Cs.s xs).noOwn=true:=rP aWF xs
theorem fS (xs:List Cs):(dl Cs.s xs).unown=dl Cs.s xs:=uG aWD xs
theorem rL:∀ xs:List Cs,(dl Cs.o xs).unown=dl Cs.s xs
 | []=>rfl
 | x :: xs=>by
  have:=rL xs
  simp only [dl,a7,jC,D.unown,aWV] at this ⊢
  rw [this]
theorem aPD (xs:List Cs):(dl Cs.o xs).allOwn=true:=mT aWZ xs
theorem aWv (o:Off):o.s.noOwn=true:=by simp [Off.s,dU,D.noOwn,cX,cR]
theorem aWu (o:Off):o.s.unown=o.s:=by simp [Off.s,dU,D.unown,fS,fA]
theorem aWH (o:Off):o.o.unown=o.s:=by simp [Off.s,Off.o,dU,D.unown,rL,fA]
theorem aWQ (o:Off):o.o.allOwn=true:=by simp [Off.o,dU,D.allOwn,aPD,aHz]
theorem iI {o:List Ob} {K:SV->Prop} {x:Cs}:eU o (some 4) x.s K=K (.d x.s):=by simp [Cs.s,Cs.p,eU,D.size,D.noOwn,cY]
theorem dF {o:List Ob} {K:SV->Prop} {x:Off}:eU o (some 5) x.s K=K (.d x.s):=by simp [Off.s,dU,eU,D.size,D.noOwn,cX,cR]
theorem e7 {α:Type} {xs:List α} {i:Nat} {r:α} (hr:xs[i]?=some r):xs.take (i + 1)=xs.take i ++ [r]:=by
 have hi:=cV hr
 rw [List.take_succ_eq_append_getElem hi]
 rw [List.getElem?_eq_getElem hi] at hr
 injection hr with hr
 rw [hr]
theorem aJb {P:PG} {f:FuncId} {ds:List D} {R S:List D->Prop} (h:Fn P f ds R) (hs:∀ rs,R rs->S rs):Fn P f ds S:=by
 intro M vs w h1 h2 h3
 refine (h M vs w h1 h2 h3).mono ?_
 rintro e w' ⟨rs,us,fp,e1,e2,e3⟩
 exact ⟨rs,us,fp,e1,hs rs e2,e3⟩
theorem aSy (v:List Int) (n:Int) (h0:0<=n) (h1:n<=1048576) (hm:v.length<=maxLen):Fn prog 122 [.sl false 1 (dl iD v),.int .i64 n] (fun rs=>∃ m:Int,rs=[.int .i64 m]/\-1<=m/\m<=n/\(0<=m->v.length<=1048576)) :=
 aJb (aKW v n h0 h1 hm) fun rs hr=>by
  subst hr
  refine ⟨_,rfl,?_,?_,?_⟩<;>split<;>omega
theorem aKh (x:Cs) (n:Int) (h0:0<=n) (h1:n<=1048576) (hm:x.h.length<=maxLen):Fn prog 83 [x.s,.int .i64 n] (fun rs=>∃ m:Int,rs=[.int .i64 m]/\-1<=m/\m<=n/\(0<=m->x.ok0)):=by
 refine cW aUF [] ?_
 dsimp only [aUF,cT,c7]
 simp only [Cs.s,Cs.p]
 repeat' (first|(simp only [cY,cJ,↓wA,↓wC,wB,cL,cK,b7,b8,b9,reduceIte,reduceCtorEq,aA,cA,dE,fJ])|((first|apply cG|apply cH|apply cF)<;>intro h<;>try simp only [h]))
 refine lT (aSy x.h n h0 h1 hm) rfl fun rs h=>?_
 obtain ⟨m,rfl,e1,e2,e3⟩:=h
 refine ⟨.inl rfl,?_⟩
 cases hd:decide (m < 0) with
 | true =>
  repeat' (first|(simp only [hd,↓wA,↓wC,wB,cL,cK,b7,b8,b9,reduceIte,reduceCtorEq,aA,cA,dE,fJ])|((first|apply cG|apply cH|apply cF)<;>intro h<;>try simp only [h]))
  exact ⟨-1,rfl,by omega,by omega,by omega⟩
 | false =>
  have:=of_decide_eq_false hd
  repeat' (first|(simp only [hd,↓wA,↓wC,wB,cL,cK,b7,b8,b9,reduceIte,reduceCtorEq,aA,cA,dE,fJ])|((first|apply cG|apply cH|apply cF)<;>intro h<;>try simp only [h]))
  exact ⟨m,rfl,e1,e2,fun h=>e3 h⟩
theorem aIh (xs:List Cs) (n:Int) (h0:0<=n) (h1:n<=1048576) (hlen:xs.length<=maxLen) (hx:∀ x∈xs,x.h.length<=maxLen):Fn prog 50 [.sl false 4 (dl Cs.s xs),.int .i64 n] (fun rs=>∃ m:Int,rs=[.int .i64 m]/\-1<=m/\m<=n/\(0<=m->o9 xs)):=by
 have hm':maxLen=9223372036854775807:=by rfl
 refine cW aVv [] ?_
 dsimp only [aVv,cT,c7]
 simp only [cO,↓wA,↓wC,wB,cL,cK,b7,b8,b9,reduceIte,reduceCtorEq,aA,cA,dE,fJ]
 refine cP (by simp only [dW]; omega) ?_
 cases hd:decide (n - (xs.length:Int) < 0) with
 | true =>
  repeat' (first|(simp only [hd,↓wA,↓wC,wB,cL,cK,b7,b8,b9,reduceIte,reduceCtorEq,aA,cA,dE,fJ])|((first|apply cG|apply cH|apply cF)<;>intro h<;>try simp only [h]))
  exact ⟨-1,rfl,by omega,by omega,by omega⟩
 | false =>
  have hd':=of_decide_eq_false hd
  repeat' (first|(simp only [hd,↓wA,↓wC,wB,cL,cK,b7,b8,b9,reduceIte,reduceCtorEq,aA,cA,dE,fJ])|((first|apply cG|apply cH|apply cF)<;>intro h<;>try simp only [h]))
  refine d5 (fun x:Nat×Int=>⟨[(0,.d (.sl false 4 (dl Cs.s xs))),(1,.d (.int .i64 x.2)),(5,.d (.int .i64 x.1))],[]⟩)
   (fun x=>x.1<=xs.length/\0<=x.2/\x.2<=n - xs.length/\∀ y∈xs.take x.1,y.ok0) (fun x=>xs.length - x.1) (0,n - xs.length) (cU _ rfl ⟨⟨rfl,rfl⟩,⟨rfl,rfl⟩,⟨rfl,rfl⟩,trivial⟩) ⟨by simp,by simp only; omega,by simp only; omega,by simp⟩ ?_
  rintro ⟨i,m⟩ ⟨i1,i2,i3,i4⟩
  simp only at i1 i2 i3 i4 ⊢
  by_cases hlt:i < xs.length
  ·obtain ⟨r,hr⟩:=dQ hlt
   have hd2:decide ((i:Int) < (xs.length:Int))=true:=decide_eq_true (by omega)
   have hi0:(0:Int)<=(i:Int):=by omega
   repeat' (first|(simp only [cO,c6,hd2,hi0,aB,hr,aC,↓iI,cJ,↓wA,↓wC,wB,cL,cK,b7,b8,b9,reduceIte,reduceCtorEq,aA,cA,dE,fJ])|((first|apply cG|apply cH|apply cF)<;>intro h<;>try simp only [h]))
   refine lT (aKh r m i2 (by omega) (hx r (aD hr))) (by simp [dB,dI,aWD]) fun rs h=>?_
   obtain ⟨q,rfl,e1,e2,e3⟩:=h
   refine ⟨.inl rfl,?_⟩
   cases hq:decide (q < 0) with
   | true =>
    repeat' (first|(simp only [hq,↓wA,↓wC,wB,cL,cK,b7,b8,b9,reduceIte,reduceCtorEq,aA,cA,dE,fJ])|((first|apply cG|apply cH|apply cF)<;>intro h<;>try simp only [h]))
    exact ⟨-1,rfl,by omega,by omega,by omega⟩
   | false =>
    have hq':=of_decide_eq_false hq
    repeat' (first|(simp only [hq,↓wA,↓wC,wB,cL,cK,b7,b8,b9,reduceIte,reduceCtorEq,aA,cA,dE,fJ])|(with_reducible refine cP ?_ ?_; focus (simp only [dW]; omega))|((first|apply cG|apply cH|apply cF)<;>intro h<;>try simp only [h]))
    refine ⟨(i + 1,q),(cU _ rfl ⟨⟨rfl,rfl⟩,⟨rfl,rfl⟩,⟨rfl,rfl⟩,trivial⟩),⟨by simp only; omega,by simp only; omega,by simp only; omega,fun y hy=>?_⟩,by simp only; omega⟩
    rw [e7 hr] at hy
    rcases bP.1 hy with hy|hy
    ·exact i4 y hy
    ·rw [bK.1 hy]; exact e3 (by omega)
  ·have hd2:decide ((i:Int) < (xs.length:Int))=false:=decide_eq_false (by omega)
   have e:i=xs.length:=by omega
   repeat' (first|(simp only [cO,hd2,↓wA,↓wC,wB,cL,cK,b7,b8,b9,reduceIte,reduceCtorEq,aA,cA,dE,fJ])|((first|apply cG|apply cH|apply cF)<;>intro h<;>try simp only [h]))
   refine ⟨m,rfl,by omega,by omega,fun _=>⟨by omega,fun y hy=>i4 y (by rw [e,aP]; exact hy)⟩⟩
theorem aEM (L:List (List UInt8)) (n:Int) (h0:0<=n) (h1:n<=1048576) (hlen:L.length<=maxLen) (hx:∀ s∈L,s.length<=maxLen):Fn prog 51 [.sl false 1 (dl D.str L),.int .i64 n] (fun rs=>∃ m:Int,rs=[.int .i64 m]/\-1<=m/\m<=n/\(0<=m->aLZ L)):=by
 have hm':maxLen=9223372036854775807:=by rfl
 refine cW aVc [] ?_
 dsimp only [aVc,cT,c7]
 simp only [cO,↓wA,↓wC,wB,cL,cK,b7,b8,b9,reduceIte,reduceCtorEq,aA,cA,dE,fJ]
 refine cP (by simp only [dW]; omega) ?_
 cases hd:decide (n - (L.length:Int) < 0) with
 | true =>
  repeat' (first|(simp only [hd,↓wA,↓wC,wB,cL,cK,b7,b8,b9,reduceIte,reduceCtorEq,aA,cA,dE,fJ])|((first|apply cG|apply cH|apply cF)<;>intro h<;>try simp only [h]))
  exact ⟨-1,rfl,by omega,by omega,by omega⟩
 | false =>
  have hd':=of_decide_eq_false hd
  repeat' (first|(simp only [hd,↓wA,↓wC,wB,cL,cK,b7,b8,b9,reduceIte,reduceCtorEq,aA,cA,dE,fJ])|((first|apply cG|apply cH|apply cF)<;>intro h<;>try simp only [h]))
  refine d5 (fun x:Nat×Int=>⟨[(0,.d (.sl false 1 (dl D.str L))),(1,.d (.int .i64 x.2)),(5,.d (.int .i64 x.1))],[]⟩)
   (fun x=>x.1<=L.length/\0<=x.2/\x.2<=n - L.length/\∀ y∈L.take x.1,y.length<=1048576) (fun x=>L.length - x.1) (0,n - L.length) (cU _ rfl ⟨⟨rfl,rfl⟩,⟨rfl,rfl⟩,⟨rfl,rfl⟩,trivial⟩) ⟨by simp,by simp only; omega,by simp only; omega,by simp⟩ ?_
  rintro ⟨i,m⟩ ⟨i1,i2,i3,i4⟩
  simp only at i1 i2 i3 i4 ⊢
  by_cases hlt:i < L.length
  ·obtain ⟨r,hr⟩:=dQ hlt
   have hd2:decide ((i:Int) < (L.length:Int))=true:=decide_eq_true (by omega)
   have hi0:(0:Int)<=(i:Int):=by omega
   have hrl:=hx r (aD hr)
   cases hq:decide (m - (r.length:Int) < 0) with
   | true =>
    repeat' (first|(simp only [cO,c6,hd2,hi0,hq,aB,hr,aC,cJ,↓wA,↓wC,wB,cL,cK,b7,b8,b9,reduceIte,reduceCtorEq,aA,cA,dE,fJ])|(with_reducible refine cP ?_ ?_; focus (simp only [dW]; omega))|((first|apply cG|apply cH|apply cF)<;>intro h<;>try simp only [h]))
    all_goals exact ⟨-1,rfl,by omega,by omega,by omega⟩
   | false =>
    have hq':=of_decide_eq_false hq
    repeat' (first|(simp only [cO,c6,hd2,hi0,hq,aB,hr,aC,cJ,↓wA,↓wC,wB,cL,cK,b7,b8,b9,reduceIte,reduceCtorEq,aA,cA,dE,fJ])|(with_reducible refine cP ?_ ?_; focus (simp only [dW]; omega))|((first|apply cG|apply cH|apply cF)<;>intro h<;>try simp only [h]))
    all_goals
     refine ⟨(i + 1,m - r.length),(cU _ rfl ⟨⟨rfl,rfl⟩,⟨rfl,rfl⟩,⟨rfl,rfl⟩,trivial⟩),⟨by simp only; omega,by simp only; omega,by simp only; omega,fun y hy=>?_⟩,by simp only; omega⟩
     rw [e7 hr] at hy
     rcases bP.1 hy with hy|hy
     ·exact i4 y hy
     ·rw [bK.1 hy]; omega
  ·have hd2:decide ((i:Int) < (L.length:Int))=false:=decide_eq_false (by omega)
   have e:i=L.length:=by omega
   repeat' (first|(simp only [cO,hd2,↓wA,↓wC,wB,cL,cK,b7,b8,b9,reduceIte,reduceCtorEq,aA,cA,dE,fJ])|((first|apply cG|apply cH|apply cF)<;>intro h<;>try simp only [h]))
   refine ⟨m,rfl,by omega,by omega,fun _=>⟨by omega,fun y hy=>i4 y (by rw [e,aP]; exact hy)⟩⟩
theorem aG0 (o:Off) (n:Int) (h0:0<=n) (h1:n<=1048576) (c1:o.cs.length<=maxLen) (c2:∀ x∈o.cs,x.h.length<=maxLen) (c3:o.led.length<=maxLen) (c4:∀ s∈o.led,s.length<=maxLen):Fn prog 27 [o.s,.int .i64 n] (fun rs=>∃ m:Int,rs=[.int .i64 m]/\-1<=m/\m<=n/\(0<=m->o.ok0)):=by
 refine cW aT6 [] ?_
 dsimp only [aT6,cT,c7]
 simp only [Off.s,dU]
 repeat' (first|(simp only [cX,cR,cJ,↓wA,↓wC,wB,cL,cK,b7,b8,b9,reduceIte,reduceCtorEq,aA,cA,dE,fJ])|((first|apply cG|apply cH|apply cF)<;>intro h<;>try simp only [h]))
 refine lT (aIh o.cs n h0 h1 c1 c2) rfl fun rs h=>?_
 obtain ⟨m,rfl,e1,e2,e3⟩:=h
 refine ⟨.inl rfl,?_⟩
 cases hd:decide (m < 0) with
 | true =>
  repeat' (first|(simp only [hd,↓wA,↓wC,wB,cL,cK,b7,b8,b9,reduceIte,reduceCtorEq,aA,cA,dE,fJ])|((first|apply cG|apply cH|apply cF)<;>intro h<;>try simp only [h]))
  exact ⟨-1,rfl,by omega,by omega,by omega⟩
 | false =>
  have hd':=of_decide_eq_false hd
  repeat' (first|(simp only [hd,cX,cR,cJ,↓wA,↓wC,wB,cL,cK,b7,b8,b9,reduceIte,reduceCtorEq,aA,cA,dE,fJ])|((first|apply cG|apply cH|apply cF)<;>intro h<;>try simp only [h]))
  refine lT (aEM o.led m (by omega) (by omega) c3 c4) rfl fun rs h=>?_
  obtain ⟨q,rfl,f1,f2,f3⟩:=h
  refine ⟨.inl rfl,?_⟩
  cases hq:decide (q < 0) with
  | true =>
   repeat' (first|(simp only [hq,↓wA,↓wC,wB,cL,cK,b7,b8,b9,reduceIte,reduceCtorEq,aA,cA,dE,fJ])|((first|apply cG|apply cH|apply cF)<;>intro h<;>try simp only [h]))
   exact ⟨-1,rfl,by omega,by omega,by omega⟩
  | false =>
   repeat' (first|(simp only [hq,↓wA,↓wC,wB,cL,cK,b7,b8,b9,reduceIte,reduceCtorEq,aA,cA,dE,fJ])|((first|apply cG|apply cH|apply cF)<;>intro h<;>try simp only [h]))
   exact ⟨q,rfl,f1,by omega,fun h=>⟨e3 (by omega),f3 h⟩⟩
theorem uM (L:List (List UInt8)) (hlen:L.length<=1048576):Fn prog 19 [.sl false 1 (dl D.str L),.sl false 1 (dl D.str L)] (fun rs=>rs=[.bool true]):=by
 refine cW aU9 [] ?_
 dsimp only [aU9,cT,c7]
 repeat' (first|(simp only [cO,↓wA,↓wC,wB,cL,cK,b7,b8,b9,reduceIte,reduceCtorEq,aA,cA,dE,fJ])|((first|apply cG|apply cH|apply cF)<;>intro h<;>try simp only [h]))
 refine dR L.length (fun i:Nat=>⟨[(0,.d (.sl false 1 (dl D.str L))),(1,.d (.sl false 1 (dl D.str L))),(5,.d (.int .i64 i))],[]⟩) (fun _=>True) (cU _ rfl ⟨⟨rfl,rfl⟩,⟨rfl,rfl⟩,⟨rfl,rfl⟩,trivial⟩) trivial ?_ ?_
 ·intro i hlt _ hd h0
  obtain ⟨r,hr⟩:=dQ hlt
  repeat' (first|(simp only [cO,c6,hd,aB,hr,aC,h0,cJ,decide_true,↓wA,↓wC,wB,cL,cK,b7,b8,b9,reduceIte,reduceCtorEq,aA,cA,dE,fJ])|(with_reducible refine cP ?_ ?_; focus (simp only [dW]; omega))|((first|apply cG|apply cH|apply cF)<;>intro h<;>try simp only [h]))
  all_goals exact ⟨i + 1,(cU _ rfl ⟨⟨rfl,rfl⟩,⟨rfl,rfl⟩,⟨rfl,rfl⟩,trivial⟩),by omega,by omega⟩
 ·intro _ hd
  repeat' (first|(simp only [cO,hd,↓wA,↓wC,wB,cL,cK,b7,b8,b9,reduceIte,reduceCtorEq,aA,cA,dE,fJ])|((first|apply cG|apply cH|apply cF)<;>intro h<;>try simp only [h]))
theorem aHx (x:Cs) (hx:x.ok0):Fn prog 117 [x.s,x.s] (fun rs=>rs=[.bool true]):=by
 have h1:=aHk x.h hx
 refine cW aRo [] ?_
 dsimp only [aRo,cT,c7]
 simp only [Cs.s,Cs.p]
 repeat' (first|(simp only [cY,cJ,decide_true,↓wA,↓wC,wB,cL,cK,b7,b8,b9,reduceIte,reduceCtorEq,aA,cA,dE,fJ])|(refine cI h1 rfl rfl ?_)|((first|apply cG|apply cH|apply cF)<;>intro h<;>try simp only [h]))
theorem aE8 (xs:List Cs) (hx:o9 xs):Fn prog 76 [.sl false 4 (dl Cs.s xs),.sl false 4 (dl Cs.s xs)] (fun rs=>rs=[.bool true]):=by
 have hlen:=hx.1
 refine cW aUX [] ?_
 dsimp only [aUX,cT,c7]
 repeat' (first|(simp only [cO,↓wA,↓wC,wB,cL,cK,b7,b8,b9,reduceIte,reduceCtorEq,aA,cA,dE,fJ])|((first|apply cG|apply cH|apply cF)<;>intro h<;>try simp only [h]))
 refine dR xs.length (fun i:Nat=>⟨[(0,.d (.sl false 4 (dl Cs.s xs))),(1,.d (.sl false 4 (dl Cs.s xs))),(5,.d (.int .i64 i))],[]⟩) (fun _=>True) (cU _ rfl ⟨⟨rfl,rfl⟩,⟨rfl,rfl⟩,⟨rfl,rfl⟩,trivial⟩) trivial ?_ ?_
 ·intro i hlt _ hd h0
  obtain ⟨r,hr⟩:=dQ hlt
  have he:=aHx r (hx.2 r (aD hr))
  repeat' (first|(simp only [cO,c6,hd,aB,hr,aC,↓iI,h0,cJ,↓wA,↓wC,wB,cL,cK,b7,b8,b9,reduceIte,reduceCtorEq,aA,cA,dE,fJ])|(refine cM he (by simp [dB,dI,kP,aWD]) rfl ?_)|(refine cI he (by simp [dB,dI,kP,aWD]) rfl ?_)|(with_reducible refine cP ?_ ?_; focus (simp only [dW]; omega))|((first|apply cG|apply cH|apply cF)<;>intro h<;>try simp only [h]))
  all_goals exact ⟨i + 1,(cU _ rfl ⟨⟨rfl,rfl⟩,⟨rfl,rfl⟩,⟨rfl,rfl⟩,trivial⟩),by omega,by omega⟩
 ·intro _ hd
  repeat' (first|(simp only [cO,hd,↓wA,↓wC,wB,cL,cK,b7,b8,b9,reduceIte,reduceCtorEq,aA,cA,dE,fJ])|((first|apply cG|apply cH|apply cF)<;>intro h<;>try simp only [h]))
theorem aDA (o:Off) (ho:o.ok0):Fn prog 40 [o.s,o.s] (fun rs=>rs=[.bool true]):=by
 have h1:=aE8 o.cs ho.1
 have h2:=uM o.led ho.2.1
 refine cW aT7 [] ?_
 dsimp only [aT7,cT,c7]
 simp only [Off.s,dU]
 repeat' (first|(simp only [cX,cR,cJ,decide_true,↓wA,↓wC,wB,cL,cK,b7,b8,b9,reduceIte,reduceCtorEq,aA,cA,dE,fJ])|(refine cI h1 rfl rfl ?_)|(refine cI h2 rfl rfl ?_)|((first|apply cG|apply cH|apply cF)<;>intro h<;>try simp only [h]))
theorem aDv (L:List (List UInt8)) (hlen:L.length<=1048576):Fn prog 63 [.sl false 1 (dl D.str L)] (fun rs=>rs=[.sl true 1 (dl D.str L)]):=by
 refine cW aTK [] ?_
 dsimp only [aTK,cT,c7]
 simp only [↓wA,↓wC,wB,cL,cK,b7,b8,b9,reduceIte,reduceCtorEq,aA,cA,dE,fJ]
 simp only [cO,↓wA,↓wC,wB,cL,cK,b7,b8,b9,reduceIte,reduceCtorEq,aA,cA,dE,fJ]
 refine cQ (by omega) ?_
 have hz:jC (aG (↑L.length:Int).toNat (D.str []))=dl D.str (L.take 0 ++ aG (L.length - 0) []):=by
  rw [pE]; simp
 rw [hz]
 refine dR L.length (fun i:Nat=>⟨[(0,.d (.sl false 1 (dl D.str L))),(3,.own 0),(4,.d (.int .i64 i))],[.val (.sl true 1 (dl D.str (L.take i ++ aG (L.length - i) [])))]⟩) (fun _=>True) (cU _ rfl ⟨⟨rfl,rfl⟩,⟨rfl,rfl⟩,⟨rfl,rfl⟩,trivial⟩) trivial ?_ ?_
 ·intro i hlt _ hd h0
  obtain ⟨r,hr⟩:=dQ hlt
  have hn:(L.take i ++ aG (L.length - i) ([]:List UInt8))[i]?=some []:=by
   rw [List.getElem?_append_right (by simp; omega),aJ,aL (by omega),aO,show L.length - i=(L.length - (i + 1)) + 1 by omega]; rfl
  have hfs:(dl D.str (L.take i ++ aG (L.length - i) ([]:List UInt8))).setN i (D.str r)=dl D.str (L.take (i + 1) ++ aG (L.length - (i + 1)) []):=by
   rw [gV,vN hr]
  repeat' (first|(simp only [cO,c6,hd,h0,aB,hr,hn,hfs,aC,cJ,↓wA,↓wC,wB,cL,cK,b7,b8,b9,reduceIte,reduceCtorEq,aA,cA,dE,fJ])|(with_reducible refine cP ?_ ?_; focus (simp only [dW]; omega))|((first|apply cG|apply cH|apply cF)<;>intro h<;>try simp only [h]))
  all_goals exact ⟨i + 1,(cU _ rfl ⟨⟨rfl,rfl⟩,⟨rfl,rfl⟩,⟨rfl,rfl⟩,trivial⟩),by omega,by omega⟩
 ·intro _ hd
  repeat' (first|(simp only [cO,hd,↓wA,↓wC,wB,cL,cK,b7,b8,b9,reduceIte,reduceCtorEq,aA,cA,dE,fJ])|((first|apply cG|apply cH|apply cF)<;>intro h<;>try simp only [h]))
  all_goals simp
theorem aIs (x:Cs) (hx:x.ok0):Fn prog 98 [x.s] (fun rs=>rs=[x.o]):=by
 have h1:=aIR x.h hx
 refine cW aUC [[1,1,1,1,1,1,0],[1,1,1,1,1,1,1]] ?_
 dsimp only [aUC,cT,c7]
 simp only [Cs.s,Cs.p]
 repeat' (first|(simp only [cY,cJ,↓wA,↓wC,wB,cL,cK,b7,b8,b9,reduceIte,reduceCtorEq,aA,cA,dE,fJ])|(refine cI h1 rfl rfl ?_)|((first|apply cG|apply cH|apply cF)<;>intro h<;>try simp only [h]))
 refine eI _ (e8 2 none [3] (es:=1) (xs:=dl iD x.h) rfl rfl) fun v1=>?_
 simp only [dY,cY,cJ,↓wA,↓wC,wB,cL,cK,b7,b8,b9,reduceIte,reduceCtorEq,aA,cA,dE,fJ]
 refine c8 (gB 1 5 4 none [3] rfl rfl rfl rfl (by decide) rfl) ?_
 simp only [dY,cY,cJ,↓wA,↓wC,wB,cL,cK,b7,b8,b9,reduceIte,reduceCtorEq,aA,cA,dE,fJ]
 rfl
def zC:D:=.st (.cons (.int .i64 0) (.cons (.int .i64 0) (.cons (.int .i64 0) (.cons (.sl true 1 .nil) .nil))))
def oz:Option Cs->D
 | some x=>x.o
 | none=>zC
theorem aGq:∀ xs:List Cs,dl oz (xs.map some)=dl Cs.o xs
 | []=>rfl
 | x :: xs=>by
  have:=aGq xs
  simp only [dl,a7,jC] at this ⊢
  rw [this]; rfl
theorem aGA (xs:List Cs) (hx:o9 xs):Fn prog 62 [.sl false 4 (dl Cs.s xs)] (fun rs=>rs=[.sl true 4 (dl Cs.o xs)]):=by
 have hlen:=hx.1
 refine cW aVJ [] ?_
 dsimp only [aVJ,cT,c7]
 simp only [↓wA,↓wC,wB,cL,cK,b7,b8,b9,reduceIte,reduceCtorEq,aA,cA,dE,fJ]
 simp only [cO,↓wA,↓wC,wB,cL,cK,b7,b8,b9,reduceIte,reduceCtorEq,aA,cA,dE,fJ]
 refine cQ (by omega) ?_
 have hz:jC (aG (↑xs.length:Int).toNat zC)=dl oz ((xs.map some).take 0 ++ aG (xs.length - 0) none):=by
  rw [show zC=oz none from rfl,pE]; simp
 have hz':D.st ((D.int IntKind.i64 0).cons ((D.int IntKind.i64 0).cons ((D.int IntKind.i64 0).cons ((D.sl true 1 .nil).cons D.nil))))=zC:=rfl
 rw [hz',hz]
 refine dR xs.length (fun i:Nat=>⟨[(0,.d (.sl false 4 (dl Cs.s xs))),(3,.own 0),(4,.d (.int .i64 i))],[.val (.sl true 4 (dl oz ((xs.map some).take i ++ aG (xs.length - i) none)))]⟩) (fun _=>True) (cU _ rfl ⟨⟨rfl,rfl⟩,⟨rfl,rfl⟩,⟨rfl,rfl⟩,trivial⟩) trivial ?_ ?_
 ·intro i hlt _ hd h0
  obtain ⟨r,hr⟩:=dQ hlt
  have hto:=aIs r (hx.2 r (aD hr))
  have hrs:(xs.map some)[i]?=some (some r):=by rw [List.getElem?_map,hr]; rfl
  have hn:((xs.map some).take i ++ aG (xs.length - i) (none:Option Cs))[i]?=some none:=by
   rw [List.getElem?_append_right (by simp; omega),aJ,aM,aL (by omega),aO,show xs.length - i=(xs.length - (i + 1)) + 1 by omega]; rfl
  repeat' (first|(simp only [cO,c6,hd,h0,aB,hr,hn,aC,cJ,↓iI,aW0,aWY,aWW,aWF,↓wA,↓wC,wB,cL,cK,b7,b8,b9,reduceIte,reduceCtorEq,aA,cA,dE,fJ])|(refine cI hto (by simp [dB,dI,kP,aWD]) rfl ?_)|(refine cP (by simp only [dW]; omega) ?_)|((first|apply cG|apply cH|apply cF)<;>intro h<;>try simp only [h]))
  refine cQ rfl ?_
  refine cP (by simp only [dW]; omega) ?_
  have hfs:(dl oz ((xs.map some).take i ++ aG (xs.length - i) none)).setN i r.o=dl oz ((xs.map some).take (i + 1) ++ aG (xs.length - (i + 1)) none):=by
   have hl:xs.length=(xs.map (some:Cs->Option Cs)).length:=by simp
   rw [show r.o=oz (some r) from rfl,gV]
   conv=>lhs; rw [hl]
   conv=>rhs; rw [hl]
   rw [vN hrs]
  rw [hfs]
  exact ⟨i + 1,(cU _ rfl ⟨⟨rfl,rfl⟩,⟨rfl,rfl⟩,⟨rfl,rfl⟩,trivial⟩),by omega,by omega⟩
 ·intro _ hd
  simp only [cO,hd,↓wA,↓wC,wB,cL,cK,b7,b8,b9,reduceIte,reduceCtorEq,aA,cA,dE,fJ]
  have h1:(xs.map (some:Cs->Option Cs)).take xs.length=xs.map some:=bE (by simp)
  rw [h1,aO,bJ,aN,aGq]
theorem aE4 (o:Off) (ho:o.ok0):Fn prog 33 [o.s] (fun rs=>rs=[o.o]):=by
 have h1:=aGA o.cs ho.1
 have h2:=aDv o.led ho.2.1
 refine cW aVi [[1,1,1,1,1,1,1,0],[1,1,1,1,1,1,1,0],[1,1,1,1,1,1,1,1],[1,1,1,1,1,1,1,1]] ?_
 dsimp only [aVi,cT,c7]
 simp only [Off.s,dU]
 repeat' (first|(simp only [cX,cR,cJ,↓wA,↓wC,wB,cL,cK,b7,b8,b9,reduceIte,reduceCtorEq,aA,cA,dE,fJ])|(refine cI h1 rfl rfl ?_)|(refine cI h2 rfl rfl ?_)|((first|apply cG|apply cH|apply cF)<;>intro h<;>try simp only [h]))
 refine eI _ (e8 2 none [1] (es:=4) (xs:=dl Cs.o o.cs) rfl rfl) fun v1=>?_
 simp only [dY,cX,cR,cJ,↓wA,↓wC,wB,cL,cK,b7,b8,b9,reduceIte,reduceCtorEq,aA,cA,dE,fJ]
 refine eI _ (e8 2 none [4] (es:=1) (xs:=dl D.str o.led) rfl rfl) fun v2=>?_
 simp only [dY,cX,cR,cJ,↓wA,↓wC,wB,cL,cK,b7,b8,b9,reduceIte,reduceCtorEq,aA,cA,dE,fJ]
 refine c8 (gB 1 6 5 none [1] rfl rfl rfl rfl (by decide) rfl) ?_
 simp only [dY,cX,cR,cJ,↓wA,↓wC,wB,cL,cK,b7,b8,b9,reduceIte,reduceCtorEq,aA,cA,dE,fJ]
 refine c8 (gB 1 8 7 none [4] rfl rfl rfl rfl (by decide) rfl) ?_
 simp only [dY,cX,cR,cJ,↓wA,↓wC,wB,cL,cK,b7,b8,b9,reduceIte,reduceCtorEq,aA,cA,dE,fJ]
 rfl
def aAY (l:List UInt8):List Bool:=(b6 256).map fun j=>l.contains (UInt8.ofNat j)
def vT (l:List UInt8):D:=.st (dl D.bool (aAY l))
theorem aD0 {w:World} {M:Nat->Prop}:∀ L:List Bool,(dl D.bool L).rep w M (L.map Value.bool) []
 | []=>⟨rfl,rfl⟩
 | b :: L=>⟨[.bool b],_,[],[],rfl,rfl,⟨rfl,rfl⟩,aD0 L⟩
theorem aIe (l:List UInt8):(Lib.setCells l).toList=(aAY l).map Value.bool:=by
 rw [Lib.setCells_eq]
 simp [aAY,bW,Function.comp_def]
theorem aQa (l:List UInt8) (x:UInt8):(aAY l)[x.toNat]?=some (l.contains x):=by
 have h:=x.toNat_lt
 simp only [aAY,List.getElem?_map,List.getElem?_range h,aC,UInt8.ofNat_toNat]
theorem aIn (s:List UInt8) (h128:∀ b∈s,b.toNat < 128) (hl:s.length < 4000000000):Fn prog 201 [.str s] (fun rs=>rs=[vT s,.bool true]):=by
 intro M vs w hM hG hv
 obtain ⟨cs,us,f1,f2,rfl,e,⟨rfl,_⟩,rfl,rfl⟩:=hv
 refine (Go.Proofs.Tryz.strings_makeASCIISet (fun w=>by kernel_rfl) ⟨s.toArray⟩ w (by show s.toArray.size < _; simp; omega) ?_).mono ?_
 ·intro j b hb
  exact h128 b (aD (by simpa using hb))
 ·rintro e w' ⟨rfl,rfl⟩
  refine ⟨[vT s,.bool true],[.agg (Lib.setCells s),.bool true],[],rfl,rfl,⟨(Lib.setCells s).toList,[.bool true],[],[],rfl,rfl,?_,⟨[.bool true],[],[],[],rfl,rfl,⟨rfl,rfl⟩,rfl,rfl⟩⟩,bR,(by simp),jN w _⟩
  rw [aIe]
  exact aD0 _
theorem aEt:∀ (L:List Bool) (n:Nat),n<=L.length->(dl D.bool L).pre n=n
 | _,0,_=>by cases ‹List Bool›<;>rfl
 | [],n + 1,h=>by simp at h
 | b :: L,n + 1,h=>by
  have:=aEt L n (by simpa using h)
  show 1 + (dl D.bool L).pre n=n + 1
  omega
theorem xZ (l:List UInt8) (x:UInt8):Fn prog 222 [.ptr (vT l),.int .u8 (x.toNat:Int)] (fun rs=>rs=[.bool (l.contains x)]):=by
 have h256:=x.toNat_lt
 have hx:=aQa l x
 have hp:=aEt (aAY l) x.toNat (by simp [aAY]; omega)
 have hp':(dl D.bool (aAY l)).pre x.toNat=x.toNat * 1:=by omega
 refine cW aRP [] ?_
 dsimp only [aRP,cT,c7]
 simp only [vT]
 repeat' (first|(simp only [cJ,aB,hp',c6,hx,aC,↓wA,↓wC,wB,cL,cK,b7,b8,b9,reduceIte,reduceCtorEq,aA,cA])|(with_reducible refine cQ ?_ ?_; focus omega)|((first|apply cG|apply cH|apply cF)<;>intro h<;>try simp only [h]))
def pM (l s:List UInt8):List UInt8:=s.dropWhile (fun b=>l.contains b)
def pY (l s:List UInt8):List UInt8:=(s.reverse.dropWhile (fun b=>l.contains b)).reverse
theorem aMQ (l s:List UInt8) (hl:s.length<=1000000):Fn prog 202 [.str s,.ptr (vT l)] (fun rs=>rs=[.str (pM l s)]):=by
 refine cW aRq [] ?_
 dsimp only [aRq,cT,c7]
 repeat' (first|(simp only [cJ,↓wA,↓wC,wB,cL,cK,b7,b8,b9,reduceIte,reduceCtorEq,aA,cA])|((first|apply cG|apply cH|apply cF)<;>intro h<;>try simp only [h]))
 refine d5 (fun t:List UInt8=>⟨[(0,.d (.str t)),(1,.d (.ptr (vT l)))],[]⟩) (fun t=>pM l t=pM l s/\t.length<=1000000) (fun t=>t.length) s (cU _ rfl ⟨⟨rfl,rfl⟩,⟨rfl,rfl⟩,trivial⟩) ⟨rfl,hl⟩ ?_
 rintro t ⟨h1,h2⟩
 cases t with
 | nil =>
  have hd:decide ((0:Int) < ((0:Nat):Int))=false:=rfl
  repeat' (first|(simp only [cJ,hd,↓wA,↓wC,wB,cL,cK,b7,b8,b9,reduceIte,reduceCtorEq,aA,cA])|((first|apply cG|apply cH|apply cF)<;>intro h<;>try simp only [h]))
  all_goals (rw [<- h1]; rfl)
 | cons b t =>
  have hd:decide ((0:Int) < ((t.length + 1:Nat):Int))=true:=decide_eq_true (by omega)
  have hC:=xZ l b
  have h0:(b :: t)[(0:Int).toNat]?=some b:=rfl
  have hdr:(b :: t).drop (1:Int).toNat=t:=rfl
  simp only [aF] at h2
  cases hb:l.contains b with
  | true =>
   rw [hb] at hC
   have e:pM l (b :: t)=pM l t:=by unfold pM; rw [aU,if_pos hb]
   repeat' (first|(simp only [cJ,hd,h0,hdr,↓wA,↓wC,wB,cL,cK,b7,b8,b9,reduceIte,reduceCtorEq,aA,cA])|(refine cI (hC) rfl rfl ?_)|(refine cM (hC) rfl rfl ?_)|(with_reducible refine cQ ?_ ?_; focus omega)|(with_reducible refine cQ ?_ ?_; focus (simp; done))|((first|apply cG|apply cH|apply cF)<;>intro h<;>try simp only [h]))
   all_goals exact ⟨t,(cU _ rfl ⟨⟨rfl,rfl⟩,⟨rfl,rfl⟩,trivial⟩),⟨by rw [<- e]; exact h1,by omega⟩,by simp⟩
  | false =>
   rw [hb] at hC
   have e:pM l (b :: t)=b :: t:=by unfold pM; rw [aU,if_neg (by rw [hb]; decide)]
   repeat' (first|(simp only [cJ,hd,h0,↓wA,↓wC,wB,cL,cK,b7,b8,b9,reduceIte,reduceCtorEq,aA,cA])|(refine cI (hC) rfl rfl ?_)|(refine cM (hC) rfl rfl ?_)|(with_reducible refine cQ ?_ ?_; focus omega)|((first|apply cG|apply cH|apply cF)<;>intro h<;>try simp only [h]))
   all_goals (rw [<- h1,e])
theorem aCK (l s:List UInt8) (b:UInt8):pY l (s ++ [b])=if l.contains b=true then pY l s else s ++ [b]:=by
 unfold pY
 rw [List.reverse_append,List.reverse_singleton,List.singleton_append,aU]
 split
 ·rfl
 ·simp
theorem aMI (l s:List UInt8) (hl:s.length<=1000000):Fn prog 203 [.str s,.ptr (vT l)] (fun rs=>rs=[.str (pY l s)]):=by
 refine cW aRz [] ?_
 dsimp only [aRz,cT,c7]
 repeat' (first|(simp only [cJ,↓wA,↓wC,wB,cL,cK,b7,b8,b9,reduceIte,reduceCtorEq,aA,cA])|((first|apply cG|apply cH|apply cF)<;>intro h<;>try simp only [h]))
 refine d5 (fun t:List UInt8=>⟨[(0,.d (.str t)),(1,.d (.ptr (vT l)))],[]⟩) (fun t=>pY l t=pY l s/\t.length<=1000000) (fun t=>t.length) s (cU _ rfl ⟨⟨rfl,rfl⟩,⟨rfl,rfl⟩,trivial⟩) ⟨rfl,hl⟩ ?_
 rintro t ⟨h1,h2⟩
 rcases bF t with rfl|⟨u,b,rfl⟩
 ·have hd:decide ((0:Int) < ((0:Nat):Int))=false:=rfl
  repeat' (first|(simp only [cJ,hd,↓wA,↓wC,wB,cL,cK,b7,b8,b9,reduceIte,reduceCtorEq,aA,cA])|((first|apply cG|apply cH|apply cF)<;>intro h<;>try simp only [h]))
  all_goals (rw [<- h1]; rfl)
 ·rw [bG] at *
  have hlen:(u ++ [b]).length=u.length + 1:=by simp
  rw [hlen] at h2
  have hd:decide ((0:Int) < ((u.length + 1:Nat):Int))=true:=decide_eq_true (by omega)
  have hC:=xZ l b
  have hn:(((u.length + 1:Nat):Int) - 1).toNat=u.length:=by omega
  have h0:(u ++ [b])[u.length]?=some b:=by simp
  have htk:(u ++ [b]).take u.length=u:=by simp
  have e:=aCK l u b
  cases hb:l.contains b with
  | true =>
   rw [hb] at hC
   rw [if_pos hb] at e
   repeat' (first|(simp only [cJ,hlen,hd,hn,h0,htk,↓wA,↓wC,wB,cL,cK,b7,b8,b9,reduceIte,reduceCtorEq,aA,cA])|(refine cI (hC) rfl rfl ?_)|(refine cM (hC) rfl rfl ?_)|(with_reducible refine cP ?_ ?_; focus (simp only [dW]; omega))|(with_reducible refine cQ ?_ ?_; focus omega)|((first|apply cG|apply cH|apply cF)<;>intro h<;>try simp only [h]))
   all_goals exact ⟨u,(cU _ rfl ⟨⟨rfl,rfl⟩,⟨rfl,rfl⟩,trivial⟩),⟨by rw [<- e]; exact h1,by omega⟩,by simp⟩
  | false =>
   rw [hb] at hC
   rw [if_neg (by rw [hb]; decide)] at e
   repeat' (first|(simp only [cJ,hlen,hd,hn,h0,↓wA,↓wC,wB,cL,cK,b7,b8,b9,reduceIte,reduceCtorEq,aA,cA])|(refine cI (hC) rfl rfl ?_)|(refine cM (hC) rfl rfl ?_)|(with_reducible refine cP ?_ ?_; focus (simp only [dW]; omega))|(with_reducible refine cQ ?_ ?_; focus omega)|((first|apply cG|apply cH|apply cF)<;>intro h<;>try simp only [h]))
   all_goals (rw [<- h1,e])
def iE:List UInt8:=[97,98,99,100,101,102,103,104,105,106,107,108,109,110,111,112,113,114,115,116,117,118,119,120,121,122,48,49,50,51,52,53,54,55,56,57,32,45]
def eB (b:UInt8):Bool:=dC (b.toNat:Int) 97 122 || dC (b.toNat:Int) 48 57 || decide ((b.toNat:Int)=32) || decide ((b.toNat:Int)=45)
theorem aTp (b:UInt8):iE.contains b=eB b:=by
 have h:∀ n,n < 256->iE.contains (UInt8.ofNat n)=eB (UInt8.ofNat n):=by decide
 have:=h b.toNat b.toNat_lt
 rwa [UInt8.ofNat_toNat] at this
theorem rB {p:UInt8->Bool}:∀ (s:List UInt8),s.dropWhile p=[]↔s.all p=true
 | []=>by simp
 | b :: s=>by
  rw [aU]
  cases hb:p b with
  | true=>simp [hb,rB s]
  | false=>simp [hb]
theorem aKZ (l:List UInt8):∀ (n:Nat) (s:List UInt8),s.length=n->(pM l (pY l s)=[]↔s.all (fun b=>l.contains b)=true):=by
 intro n
 induction n with
 | zero =>
  intro s hs
  obtain rfl:=List.eq_nil_of_length_eq_zero hs
  simp [pM,pY]
 | succ n IH =>
 intro s hs
 unfold pM
 rw [rB]
 rcases bF s with rfl|⟨u,b,rfl⟩
 ·simp [pY]
 ·rw [bG,aCK]
  split
  ·rename_i hb
   have ih:=IH u (by simpa using hs)
   unfold pM at ih
   rw [rB] at ih
   rw [ih,List.all_append]
   simp only [List.all_cons,List.all_nil,hb,aW]
  ·rfl
theorem aMU (l s:List UInt8):pM l (pY l s)=[]↔s.all (fun b=>l.contains b)=true:=aKZ l _ s rfl
def kJ (s:List UInt8):Bool:=dC s.length 1 40 && s.all eB
def aS3:D:=.st (jC (aG 256 (D.bool false)))
theorem aHX (l:List UInt8):(vT l).noOwn=true:=rP (f:=D.bool) (fun _=>rfl) (aAY l)
theorem aHS (l:List UInt8):(vT l).unown=vT l:=by
 show D.st (dl D.bool (aAY l)).unown=_
 rw [uG (fun _=>rfl)]; rfl
theorem aCg:∀ L:List Bool,(dl D.bool L).size=L.length
 | []=>rfl
 | b :: L=>by
  have:=aCg L
  show 1 + (dl D.bool L).size=L.length + 1
  omega
theorem aKT (l:List UInt8):(vT l).size=256:=by
 show (dl D.bool (aAY l)).size=256
 rw [aCg]; simp [aAY]
theorem aQl (s:List UInt8) (h0:0 < s.length) (hl:s.length<=1000):Fn prog 173 [.str s,.str iE] (fun rs=>rs=[.str (pM iE (pY iE s))]):=by
 have hM:=aIn iE (by decide) (by decide)
 have hR:=aMI iE s (by omega)
 have hrl:(pY iE s).length<=s.length:=by
  unfold pY
  have:=(List.dropWhile_sublist (p:=fun b=>iE.contains b) (l:=s.reverse)).length_le
  simpa using this
 have hL:=aMQ iE (pY iE s) (by omega)
 have d1:decide (s=[])=false:=decide_eq_false (fun h=>by rw [h] at h0; simp at h0)
 have d2:decide (iE=[])=false:=rfl
 have d3:decide ((iE.length:Int)=1)=false:=rfl
 have n1:(vT iE).noOwn=true:=aHX _
 have n2:(vT iE).isV=true:=rfl
 have n3:=aKT iE
 have n4:(vT iE).unown=vT iE:=aHS _
 have hz:D.st (jC (aG 256 (D.bool false)))=aS3:=rfl
 have n5:aS3.size=256:=rfl
 refine cW aQE [[1,1,1,0,1,1,0,0]] ?_
 dsimp only [aQE,cT,c7]
 conv in (D.st (D.cons (D.bool false) _))=>change aS3
 generalize aS3=Z at n5
 repeat' (first|(simp only [cJ,d1,d2,d3,n1,n2,n3,n5,↓wA,↓wC,wB,cL,cK,b7,b8,b9,reduceIte,reduceCtorEq,aA,cA])|(refine cI (hM) rfl rfl ?_)|(refine cM (hM) rfl rfl ?_)|((first|apply cG|apply cH|apply cF)<;>intro h<;>try simp only [h]))
 refine c8 (gI 0 rfl) ?_
 repeat' (first|(simp only [cJ,n4,↓wA,↓wC,wB,cL,cK,b7,b8,b9,reduceIte,reduceCtorEq,aA,cA])|(refine cI (hR) rfl rfl ?_)|(refine cM (hR) rfl rfl ?_)|(refine cI (hL) rfl rfl ?_)|(refine cM (hL) rfl rfl ?_)|((first|apply cG|apply cH|apply cF)<;>intro h<;>try simp only [h]))
 all_goals trace_state
theorem xI (n:Nat):dC (n:Int) 1 40=true->0 < n/\n<=40:=by
 intro h
 simp only [dC,aQ,decide_eq_true_eq] at h
 omega
theorem aCc (s:List UInt8):Fn prog 134 [.str s] (fun rs=>rs=[.bool (kJ s)]):=by
 unfold kJ
 cases hw:dC (s.length:Int) 1 40 with
 | false =>
  have hW:=e9 (s.length:Int) 1 40
  rw [hw] at hW
  refine cW aJE [] ?_
  dsimp only [aJE,cT,c7]
  repeat' (first|(simp only [↓wA,↓wC,wB,cL,cK,b7,b8,b9,reduceIte,reduceCtorEq,aA,cA])|(refine cI (hW) rfl rfl ?_)|(refine cM (hW) rfl rfl ?_)|((first|apply cG|apply cH|apply cF)<;>intro h<;>try simp only [h]))
  all_goals rfl
 | true =>
  have hW:=e9 (s.length:Int) 1 40
  rw [hw] at hW
  have hl:=xI _ hw
  have hT:=aQl s hl.1 (by omega)
  have he:decide (pM iE (pY iE s)=[])=s.all eB:=by
   have h1:=aMU iE s
   have h2:(s.all fun b=>iE.contains b)=s.all eB:=by
    congr 1
    funext b
    exact aTp b
   rw [h2] at h1
   cases hb:s.all eB with
   | true=>exact decide_eq_true (h1.2 hb)
   | false=>exact decide_eq_false (fun h=>by rw [h1.1 h] at hb; cases hb)
  simp only [iE] at hT he
  refine cW aJE [] ?_
  dsimp only [aJE,cT,c7]
  repeat' (first|(simp only [↓wA,↓wC,wB,cL,cK,b7,b8,b9,reduceIte,reduceCtorEq,aA,cA])|(refine cI (hW) rfl rfl ?_)|(refine cM (hW) rfl rfl ?_)|(refine cI (hT) rfl rfl ?_)|(refine cM (hT) rfl rfl ?_)|((first|apply cG|apply cH|apply cF)<;>intro h<;>try simp only [h]))
  all_goals exact congrArg (fun b=>[D.bool b]) he
theorem aEJ (b:UInt8):Fn prog 163 [.int .u8 (b.toNat:Int)] (fun rs=>rs=[.bool (dC (b.toNat:Int) 97 122)]):=by
 refine cW aR9 [] ?_
 dsimp only [aR9,cT,c7]
 repeat' (first|(simp only [↓wA,↓wC,wB,cL,cK,b7,b8,b9,reduceIte,reduceCtorEq,aA,cA])|((first|apply cG|apply cH|apply cF)<;>intro h<;>try simp only [h]))
 all_goals first|(simp_all [dC]; done)|(simp_all [dC]; intros; omega)
theorem aGa (s:List UInt8) (hl:s.length<=1048576):Fn prog 123 [.str s] (fun rs=>rs=[.bool (kJ s)]):=by
 have hW:=iK (s.length:Int) 1 40
 unfold kJ
 refine cW aRS [] ?_
 dsimp only [aRS,cT,c7]
 repeat' (first|(simp only [cJ,↓wA,↓wC,wB,cL,cK,b7,b8,b9,reduceIte,reduceCtorEq,aA,cA])|((first|apply cG|apply cH|apply cF)<;>intro h<;>try simp only [h]))
 refine dR s.length (fun i:Nat=>⟨[(0,.d (.str s)),(3,.d (.int .i64 i))],[]⟩) (fun i=>∀ j b,j < i->s[j]?=some b->eB b=true) (cU _ rfl ⟨⟨rfl,rfl⟩,⟨rfl,rfl⟩,trivial⟩) (fun j r hj=>by omega) ?_ ?_
 ·intro i hlt hinv hd h0
  obtain ⟨b,hb⟩:=dQ hlt
  have hL:=aEJ b
  have hbad:eB b=false->(dC (s.length:Int) 1 40 && s.all eB)=false:=by
   intro h
   have:s.all eB=false:=a8.2 ⟨b,aD hb,by rw [h]; simp⟩
   rw [this,bT]
  have hgood:eB b=true->∀ j c,j < i + 1->s[j]?=some c->eB c=true:=by
   intro h j c hj hc
   by_cases e:j=i
   ·subst e; rw [hb] at hc; injection hc with hc; rw [<- hc]; exact h
   ·exact hinv j c (by omega) hc
  cases hlt1:dC (b.toNat:Int) 97 122 with
  | true =>
   rw [hlt1] at hL
   have hg:=hgood (by unfold eB; rw [hlt1]; rfl)
   repeat' (first|(simp only [cJ,hd,h0,hb,aB,↓wA,↓wC,wB,cL,cK,b7,b8,b9,reduceIte,reduceCtorEq,aA,cA])|(refine cI (hL) rfl rfl ?_)|(refine cM (hL) rfl rfl ?_)|(with_reducible refine cP ?_ ?_; focus (simp only [dW]; omega))|((first|apply cG|apply cH|apply cF)<;>intro h<;>try simp only [h]))
   all_goals exact fH (cU _ rfl ⟨⟨rfl,rfl⟩,⟨rfl,rfl⟩,trivial⟩) hlt hg
  | false =>
   rw [hlt1] at hL
   repeat' (first|(simp only [cJ,hd,h0,hb,aB,↓wA,↓wC,wB,cL,cK,b7,b8,b9,reduceIte,reduceCtorEq,aA,cA])|(refine cI (hL) rfl rfl ?_)|(refine cM (hL) rfl rfl ?_)|(with_reducible refine cP ?_ ?_; focus (simp only [dW]; omega))|((first|apply cG|apply cH|apply cF)<;>intro h<;>try simp only [h]))
   all_goals first
    |(refine fH (cU _ rfl ⟨⟨rfl,rfl⟩,⟨rfl,rfl⟩,trivial⟩) hlt (hgood ?_); focus (clear hL hW hgood hbad; simp_all [eB,dC]; done))
    |(refine (congrArg (fun x=>[D.bool x]) (hbad ?_)).symm; focus (clear hL hW hgood hbad; simp_all [eB,dC]; done))
    |(refine (congrArg (fun x=>[D.bool x]) (hbad ?_)).symm; focus (clear hL hW hgood hbad hinv; simp_all [eB,dC]; intros; omega))
    |(refine (congrArg (fun x=>[D.bool x]) (hbad ?_)).symm; focus (clear hL hW hgood hbad hinv; simp_all [eB,dC]; omega))
    | trace_state
 ·intro hinv hd
  have:s.all eB=true:=aS.2 fun b hb=>by
   obtain ⟨j,hj⟩:=List.getElem?_of_mem hb
   exact hinv j b (cV hj) hj
  rw [this,aW]
  repeat' (first|(simp only [cJ,hd,↓wA,↓wC,wB,cL,cK,b7,b8,b9,reduceIte,reduceCtorEq,aA,cA])|(refine cI (hW) rfl rfl ?_)|(refine cM (hW) rfl rfl ?_)|((first|apply cG|apply cH|apply cF)<;>intro h<;>try simp only [h]))
def eN (L:List (List UInt8)):Bool:=dC L.length 1 8 && L.all kJ
theorem aGM (s:List UInt8):Fn prog 133 [.str s] (fun rs=>rs=[.bool (!kJ s)]):=by
 refine cW aRV [] ?_
 dsimp only [aRV,cT,c7]
 repeat' (first|(simp only [↓wA,↓wC,wB,cL,cK,b7,b8,b9,reduceIte,reduceCtorEq,aA,cA])|(refine cI (aCc s) rfl rfl ?_)|(refine cM (aCc s) rfl rfl ?_)|((first|apply cG|apply cH|apply cF)<;>intro h<;>try simp only [h]))
theorem aDB (p:(List UInt8)->Bool) (g:Nat) (c:D) (xs:List (List UInt8)) (hc:c.caps=true) (he:gE prog.P g=true) (hlen:xs.length<=1048576) (hp:∀ x∈xs,Fn prog g (D.str x :: c.list) (fun rs=>rs=[.bool (p x)])) :
  Fn prog 172 [.sl false 1 (dl D.str xs),.clo g c] (fun rs=>rs=[.int .i64 (kS p xs)]):=by
 refine cW aRh [] ?_
 dsimp only [aRh,cT,c7]
 simp only [cO,↓wA,↓wC,wB,cL,cK,b7,b8,b9,reduceIte,reduceCtorEq,aA,cA]
 refine dR xs.length (fun i:Nat=>⟨[(0,.d (.sl false 1 (dl D.str xs))),(1,.d (.clo g c)),(7,.d (.int .i64 xs.length)),(8,.d (.int .i64 i))],[]⟩) (fun i=>∀ j r,j < i->xs[j]?=some r->p r=false) (cU _ rfl ⟨⟨rfl,rfl⟩,⟨rfl,rfl⟩,⟨rfl,rfl⟩,⟨rfl,rfl⟩,trivial⟩) (fun j r hj=>by omega) ?_ ?_
 ·intro i hlt hinv hd h0
  obtain ⟨r,hr⟩:=dQ hlt
  have hcl:=hp r (aD hr)
  simp only [hd,h0,c6,aB,hr,aC,cJ,↓aLV,↓wA,↓wC,wB,cL,cK,b7,b8,b9,reduceIte,reduceCtorEq,aA,cA]
  refine vH (ds:=[D.str r]) hcl he hc (by simp [dB,dI,kP,D.str]) rfl ?_
  cases hpr:p r with
  | true =>
   simp only [↓wA,↓wC,wB,cL,cK,b7,b8,b9,reduceIte,reduceCtorEq,aA,cA]
   rw [rT hr hpr hinv]
  | false =>
   simp only [↓wA,↓wC,wB,cL,cK,b7,b8,b9,reduceIte,reduceCtorEq,aA,cA]
   refine cP (by simp only [dW]; omega) ?_
   refine fH (cU _ rfl ⟨⟨rfl,rfl⟩,⟨rfl,rfl⟩,⟨rfl,rfl⟩,⟨rfl,rfl⟩,trivial⟩) hlt fun j s hj hs=>?_
   by_cases e:j=i
   ·subst e; rw [hr] at hs; injection hs with hs; rw [<- hs]; exact hpr
   ·exact hinv j s (by omega) hs
 ·intro hinv hd
  simp only [hd,↓wA,↓wC,wB,cL,cK,b7,b8,b9,reduceIte,reduceCtorEq,aA,cA]
  rw [qA fun j r hj=>hinv j r (cV hj) hj]
theorem aAj (p:(List UInt8)->Bool) (g:Nat) (c:D) (xs:List (List UInt8)) (hc:c.caps=true) (he:gE prog.P g=true) (hlen:xs.length<=1048576) (hp:∀ x∈xs,Fn prog g (D.str x :: c.list) (fun rs=>rs=[.bool (p x)])) :
  Fn prog 132 [.sl false 1 (dl D.str xs),.clo g c] (fun rs=>rs=[.bool (xs.any p)]):=by
 refine cW aRw [] ?_
 dsimp only [aRw,cT,c7]
 simp only [↓wA,↓wC,wB,cL,cK,b7,b8,b9,reduceIte,reduceCtorEq,aA,cA]
 refine cI (aDB p g c xs hc he hlen hp) rfl rfl ?_
 simp only [r6,↓wA,↓wC,wB,cL,cK,b7,b8,b9,reduceIte,reduceCtorEq,aA,cA]
theorem aAN (L:List (List UInt8)) (hl:L.length<=1048576):Fn prog 99 [.sl false 1 (dl D.str L)] (fun rs=>rs=[.bool (eN L)]):=by
 have hW:=e9 (L.length:Int) 1 8
 have hC:=aAj (fun s=>!kJ s) 133 .nil L rfl aT5 hl (fun s _=>aGM s)
 rw [aJy] at hC
 unfold eN
 cases hw:dC (L.length:Int) 1 8 with
 | false =>
  rw [hw] at hW
  refine cW aPV [] ?_
  dsimp only [aPV,cT,c7]
  repeat' (first|(simp only [cO,↓wA,↓wC,wB,cL,cK,b7,b8,b9,reduceIte,reduceCtorEq,aA,cA])|(refine cI (hW) rfl rfl ?_)|(refine cM (hW) rfl rfl ?_)|((first|apply cG|apply cH|apply cF)<;>intro h<;>try simp only [h]))
  all_goals rfl
 | true =>
  rw [hw] at hW
  refine cW aPV [] ?_
  dsimp only [aPV,cT,c7]
  repeat' (first|(simp only [cO,↓wA,↓wC,wB,cL,cK,b7,b8,b9,reduceIte,reduceCtorEq,aA,cA])|(refine cI (hW) rfl rfl ?_)|(refine cM (hW) rfl rfl ?_)|(refine cI (hC) rfl rfl ?_)|(refine cM (hC) rfl rfl ?_)|((first|apply cG|apply cH|apply cF)<;>intro h<;>try simp only [h]))
  all_goals simp
theorem aIW (L:List (List UInt8)) (hl:L.length<=1048576) (hx:∀ s∈L,s.length<=1048576):Fn prog 86 [.sl false 1 (dl D.str L)] (fun rs=>rs=[.bool (eN L)]):=by
 have hW:=iK (L.length:Int) 1 8
 unfold eN
 refine cW aUN [] ?_
 dsimp only [aUN,cT,c7]
 repeat' (first|(simp only [cJ,↓wA,↓wC,wB,cL,cK,b7,b8,b9,reduceIte,reduceCtorEq,aA,cA])|((first|apply cG|apply cH|apply cF)<;>intro h<;>try simp only [h]))
 refine dR L.length (fun i:Nat=>⟨[(0,.d (.sl false 1 (dl D.str L))),(3,.d (.int .i64 i))],[]⟩) (fun i=>∀ j b,j < i->L[j]?=some b->kJ b=true) (cU _ rfl ⟨⟨rfl,rfl⟩,⟨rfl,rfl⟩,trivial⟩) (fun j r hj=>by omega) ?_ ?_
 ·intro i hlt hinv hd h0
  obtain ⟨b,hb⟩:=dQ hlt
  have hE:=aGa b (hx b (aD hb))
  cases hbo:kJ b with
  | false =>
   rw [hbo] at hE
   have:L.all kJ=false:=a8.2 ⟨b,aD hb,by rw [hbo]; simp⟩
   rw [this,bT]
   repeat' (first|(simp only [cJ,cO,c6,hd,h0,hb,aB,aC,↓wA,↓wC,wB,cL,cK,b7,b8,b9,reduceIte,reduceCtorEq,aA,cA])|(refine cI (hE) rfl rfl ?_)|(refine cM (hE) rfl rfl ?_)|(with_reducible refine cP ?_ ?_; focus (simp only [dW]; omega))|((first|apply cG|apply cH|apply cF)<;>intro h<;>try simp only [h]))
  | true =>
   rw [hbo] at hE
   repeat' (first|(simp only [cJ,cO,c6,hd,h0,hb,aB,aC,↓wA,↓wC,wB,cL,cK,b7,b8,b9,reduceIte,reduceCtorEq,aA,cA])|(refine cI (hE) rfl rfl ?_)|(refine cM (hE) rfl rfl ?_)|(with_reducible refine cP ?_ ?_; focus (simp only [dW]; omega))|((first|apply cG|apply cH|apply cF)<;>intro h<;>try simp only [h]))
   refine fH (cU _ rfl ⟨⟨rfl,rfl⟩,⟨rfl,rfl⟩,trivial⟩) hlt fun j c hj hc=>?_
   by_cases e:j=i
   ·subst e; rw [hb] at hc; injection hc with hc; rw [<- hc]; exact hbo
   ·exact hinv j c (by omega) hc
 ·intro hinv hd
  have:L.all kJ=true:=aS.2 fun b hb=>by
   obtain ⟨j,hj⟩:=List.getElem?_of_mem hb
   exact hinv j b (cV hj) hj
  rw [this,aW]
  repeat' (first|(simp only [cJ,cO,hd,↓wA,↓wC,wB,cL,cK,b7,b8,b9,reduceIte,reduceCtorEq,aA,cA])|(refine cI (hW) rfl rfl ?_)|(refine cM (hW) rfl rfl ?_)|((first|apply cG|apply cH|apply cF)<;>intro h<;>try simp only [h]))
def gJ (x:Cs):Bool:=dC x.i 1 999 && dC x.a 1 3 && dC x.d 0 20000 && decide ((x.h.length:Int)<=5) && (x.h.all (fun n=>dC n 1 9) && oC x.h)
theorem aDn (n:Int):Fn prog 135 [.int .i64 n] (fun rs=>rs=[.bool (dC n 1 999)]):=by
 refine cW aRu [] ?_
 dsimp only [aRu,cT,c7]
 repeat' (first|(simp only [↓wA,↓wC,wB,cL,cK,b7,b8,b9,reduceIte,reduceCtorEq,aA,cA])|(refine cI (e9 _ _ _) rfl rfl ?_)|(refine cM (e9 _ _ _) rfl rfl ?_)|((first|apply cG|apply cH|apply cF)<;>intro h<;>try simp only [h]))
theorem aND (n:Int):Fn prog 136 [.int .i64 n] (fun rs=>rs=[.bool (dC n 1 3)]):=by
 refine cW aRD [] ?_
 dsimp only [aRD,cT,c7]
 repeat' (first|(simp only [↓wA,↓wC,wB,cL,cK,b7,b8,b9,reduceIte,reduceCtorEq,aA,cA])|(refine cI (e9 _ _ _) rfl rfl ?_)|(refine cM (e9 _ _ _) rfl rfl ?_)|((first|apply cG|apply cH|apply cF)<;>intro h<;>try simp only [h]))
theorem tT (n:Int):Fn prog 140 [.int .i64 n] (fun rs=>rs=[.bool (dC n 1 9)]):=by
 refine cW aJo [] ?_
 dsimp only [aJo,cT,c7]
 repeat' (first|(simp only [↓wA,↓wC,wB,cL,cK,b7,b8,b9,reduceIte,reduceCtorEq,aA,cA])|(refine cI (e9 _ _ _) rfl rfl ?_)|(refine cM (e9 _ _ _) rfl rfl ?_)|((first|apply cG|apply cH|apply cF)<;>intro h<;>try simp only [h]))
theorem aHM (n:Int):Fn prog 139 [.int .i64 n] (fun rs=>rs=[.bool (!dC n 1 9)]):=by
 refine cW aRU [] ?_
 dsimp only [aRU,cT,c7]
 repeat' (first|(simp only [↓wA,↓wC,wB,cL,cK,b7,b8,b9,reduceIte,reduceCtorEq,aA,cA])|(refine cI (tT n) rfl rfl ?_)|(refine cM (tT n) rfl rfl ?_)|((first|apply cG|apply cH|apply cF)<;>intro h<;>try simp only [h]))
theorem aLh (x:Cs) (hx:x.ok0):Fn prog 100 [x.s] (fun rs=>rs=[.bool (gJ x)]):=by
 have hR:=aDn x.i
 have hA:=aND x.a
 have hD:=aGt x.d
 have hS:=aFx x.h hx
 have hC:=zR (fun n=>!dC n 1 9) 139 .nil x.h rfl aUG hx (fun n _=>aHM n)
 rw [aJy] at hC
 unfold gJ
 generalize dC x.i 1 999=b1 at *
 generalize dC x.a 1 3=b2 at *
 generalize dC x.d 0 20000=b3 at *
 generalize (x.h.all fun n=>dC n 1 9)=b4 at *
 generalize oC x.h=b5 at *
 refine cW aR0 [] ?_
 dsimp only [aR0,cT,c7]
 simp only [Cs.s,Cs.p]
 repeat' (first|(simp only [cY,cJ,cO,↓wA,↓wC,wB,cL,cK,b7,b8,b9,reduceIte,reduceCtorEq,aA,cA])|(refine cI (hR) rfl rfl ?_)|(refine cM (hR) rfl rfl ?_)|(refine cI (hA) rfl rfl ?_)|(refine cM (hA) rfl rfl ?_)|(refine cI (hD) rfl rfl ?_)|(refine cM (hD) rfl rfl ?_)|(refine cI (hS) rfl rfl ?_)|(refine cM (hS) rfl rfl ?_)|(refine cI (hC) rfl rfl ?_)|(refine cM (hC) rfl rfl ?_)|((first|apply cG|apply cH|apply cF)<;>intro h<;>try simp only [h]))
 all_goals (clear hR hA hD hS hC; simp_all)
theorem aHW (x:Cs) (hx:x.ok0):Fn prog 87 [x.s] (fun rs=>rs=[.bool (gJ x)]):=by
 have hR:=iK x.i 1 999
 have hA:=iK x.a 1 3
 have hD:=aGk x.d
 have hS:=aFD x.h 1 9 hx
 unfold gJ
 generalize dC x.i 1 999=b1 at *
 generalize dC x.a 1 3=b2 at *
 generalize dC x.d 0 20000=b3 at *
 generalize ((x.h.all fun n=>dC n 1 9) && oC x.h)=b4 at *
 refine cW aUw [] ?_
 dsimp only [aUw,cT,c7]
 simp only [Cs.s,Cs.p]
 repeat' (first|(simp only [cY,cJ,cO,↓wA,↓wC,wB,cL,cK,b7,b8,b9,reduceIte,reduceCtorEq,aA,cA])|(refine cI (hR) rfl rfl ?_)|(refine cM (hR) rfl rfl ?_)|(refine cI (hA) rfl rfl ?_)|(refine cM (hA) rfl rfl ?_)|(refine cI (hD) rfl rfl ?_)|(refine cM (hD) rfl rfl ?_)|(refine cI (hS) rfl rfl ?_)|(refine cM (hS) rfl rfl ?_)|((first|apply cG|apply cH|apply cF)<;>intro h<;>try simp only [h]))
 all_goals (clear hR hA hD hS; simp_all)
theorem pR {x:Cs} {K:SV->Prop}:dG 0 0 (.d (.ptr x.s)) K=K (.d (.ptr (.int .i64 x.i))):=by simp [Cs.s,Cs.p,dG,D.pre,D.nth,D.size]
theorem wP {x:Cs} {K:SV->Prop}:dG 1 1 (.d (.ptr x.s)) K=K (.d (.ptr (.int .i64 x.a))):=by simp [Cs.s,Cs.p,dG,D.pre,D.nth,D.size]
theorem sS {x:Cs} {K:SV->Prop}:dG 2 2 (.d (.ptr x.s)) K=K (.d (.ptr (.int .i64 x.d))):=by simp [Cs.s,Cs.p,dG,D.pre,D.nth,D.size]
theorem uL {x:Cs} {K:SV->Prop}:dG 3 3 (.d (.ptr x.s)) K=K (.d (.ptr (.sl false 1 (dl iD x.h)))):=by simp [Cs.s,Cs.p,dG,D.pre,D.nth,D.size]
theorem iN {x:Cs}:fL [0] x.s=0:=rfl
theorem jK {x:Cs}:fL [1] x.s=1:=rfl
theorem iW {x:Cs}:fL [2] x.s=2:=rfl
theorem iX {x:Cs}:fL [3] x.s=3:=rfl
theorem iO {x:Cs}:gU [0] x.s=some (.int .i64 x.i):=rfl
theorem jJ {x:Cs}:gU [1] x.s=some (.int .i64 x.a):=rfl
theorem iV {x:Cs}:gU [2] x.s=some (.int .i64 x.d):=rfl
theorem iZ {x:Cs}:gU [3] x.s=some (.sl false 1 (dl iD x.h)):=rfl
theorem aWw (o:Off):o.s.isV=true:=rfl
theorem aWz (o:Off):o.s.size=5:=rfl
theorem aWO (o:Off):o.o.isV=true:=rfl
theorem aWM (o:Off):o.o.size=5:=rfl
def ltC (xs:List Cs) (i:Nat) (x:Cs):Bool:=match i with
 | 0=>true
 | k + 1=>match xs[k]? with
  | some y=>decide (y.i < x.i)
  | none=>true
def aCj (xs:List Cs) (i:Nat):Bool:=match xs[i]? with
 | some x=>gJ x && ltC xs i x
 | none=>false
theorem aCI {xs:List Cs} {i:Nat} {x:Cs} (hr:xs[i]?=some x):aCj xs i=(gJ x && ltC xs i x):=by
 unfold aCj; rw [hr]
def yZ (xs:List Cs):Bool:=(b6 xs.length).all (aCj xs)
theorem qW {xs:List Cs} {i:Nat} (hi:i < xs.length) (h:aCj xs i=false):yZ xs=false:=by
 refine a8.2 ⟨i,bH.2 hi,by rw [h]; simp⟩
theorem aAU {xs:List Cs} (h:∀ j,j < xs.length->aCj xs j=true):yZ xs=true :=
 aS.2 fun j hj=>h j (bH.1 hj)
def aCm (L:List (List UInt8)):Bool:=!decide ((0:Int) < (L.length:Int)) || eN L
def sA (o:Off):Bool:=dC o.day 0 20000 && decide ((o.cs.length:Int)<=6) && dC o.kept 0 999 && dC o.moved 0 999 && aCm o.led
def dP (o:Off):Bool:=sA o && yZ o.cs
theorem aRp {xs:List Cs} {i:Nat} {x:Cs} (hlt:i < xs.length):(decide ((0:Int) < (i:Int))=false/\ltC xs i x=true)\/∃ y,decide ((0:Int) < (i:Int))=true/\(0:Int)<=(i:Int) - 1/\xs[((i:Int) - 1).toNat]?=some y/\decide (x.i<=y.i)=!ltC xs i x:=by
 cases i with
 | zero=>exact .inl ⟨rfl,rfl⟩
 | succ k =>
  obtain ⟨y,hy⟩:=dQ (show k < xs.length by omega)
  refine .inr ⟨y,decide_eq_true (by omega),by omega,?_,?_⟩
  ·rw [show (((k + 1:Nat):Int) - 1).toNat=k by omega]; exact hy
  ·have:ltC xs (k + 1) x=decide (y.i < x.i):=by simp only [ltC,hy]
   rw [this]
   by_cases h:y.i < x.i
   ·rw [decide_eq_true h,decide_eq_false (by omega)]; rfl
   ·rw [decide_eq_false h,decide_eq_true (by omega)]; rfl
theorem jV (o:Off) (ho:o.ok0):Fn prog 64 [o.s] (fun rs=>rs=[.bool (dP o)]):=by
 have hDay:=aGt o.day
 have hK:=e9 o.kept 0 999
 have hM:=e9 o.moved 0 999
 have hL:=aAN o.led ho.2.1
 have hlen:=ho.1.1
 have hh:sA o=(dC o.day 0 20000 && decide ((o.cs.length:Int)<=6) && dC o.kept 0 999 && dC o.moved 0 999 && aCm o.led):=rfl
 unfold aCm at hh
 unfold dP
 have body:sA o=true->Fn prog 64 [o.s] (fun rs=>rs=[.bool (yZ o.cs)]):=by
  intro hho
  rw [hh] at hho
  simp only [aQ] at hho
  obtain ⟨⟨⟨⟨q1,q2⟩,q3⟩,q4⟩,q5⟩:=hho
  rw [q1] at hDay
  rw [q3] at hK
  rw [q4] at hM
  have q2':=of_decide_eq_true q2
  have e2:decide ((6:Int) < (o.cs.length:Int))=false:=decide_eq_false (by omega)
  generalize hlg:eN o.led=b5 at *
  refine cW aOQ [] ?_
  dsimp only [aOQ,cT,c7]
  simp only [Off.s,dU]
  repeat' (first|(simp only [cX,cR,cJ,cO,e2,↓wA,↓wC,wB,cL,cK,b7,b8,b9,reduceIte,reduceCtorEq,aA,cA])|(refine cI (hDay) rfl rfl ?_)|(refine cM (hDay) rfl rfl ?_)|(refine cI (hK) rfl rfl ?_)|(refine cM (hK) rfl rfl ?_)|(refine cI (hM) rfl rfl ?_)|(refine cM (hM) rfl rfl ?_)|(refine cI (hL) rfl rfl ?_)|(refine cM (hL) rfl rfl ?_)|((first|apply cG|apply cH|apply cF)<;>intro h<;>try simp only [h]))
  any_goals (exfalso; clear hDay hK hM hL; simp_all; done)
  all_goals
   refine dR o.cs.length (fun i:Nat=>⟨[(1,.ptr 0 0 []),(40,.d (.sl false 4 (dl Cs.s o.cs))),(41,.d (.int .i64 o.cs.length)),(42,.d (.int .i64 i))],[.box o.s]⟩) (fun i=>∀ j,j < i->aCj o.cs j=true) (cU _ rfl ⟨⟨rfl,rfl⟩,⟨rfl,rfl⟩,⟨rfl,rfl⟩,⟨rfl,rfl⟩,trivial⟩) (fun j hj=>by omega) ?_ ?_
   ·intro i hlt hinv hd h0
    obtain ⟨x,hr⟩:=dQ hlt
    have hst:=aCI hr
    have hok:=aLh x (ho.1.2 x (aD hr))
    simp only [Off.s,dU]
    rcases aRp (x:=x) hlt with ⟨hg,hl⟩|⟨y,hg,h1,hy,hq⟩
    ·rw [hl,aW] at hst
     repeat' (first|(simp only [cX,cR,cO,c6,hd,h0,hg,aB,hr,aC,↓iI,aWF,aWE,aWC,aWD,cJ,↓wA,↓wC,wB,cL,cK,b7,b8,b9,reduceIte,reduceCtorEq,aA,cA])|(refine cI (hok) rfl rfl ?_)|(refine cM (hok) rfl rfl ?_)|(with_reducible refine cP ?_ ?_; focus (simp only [dW]; omega))|((first|apply cG|apply cH|apply cF)<;>intro h<;>try simp only [h]))
     all_goals first
      |(refine fH (cU _ rfl ⟨⟨rfl,rfl⟩,⟨rfl,rfl⟩,⟨rfl,rfl⟩,⟨rfl,rfl⟩,trivial⟩) hlt (yA hinv ?_); focus (clear hok; rw [hst]; simp_all; done))
      |(refine (congrArg (fun b=>[D.bool b]) (qW hlt ?_)).symm; focus (clear hok; rw [hst]; simp_all; done))
      | trace_state
    ·repeat' (first|(simp only [cX,cR,cO,c6,hd,h0,hg,h1,hy,hq,aB,hr,aC,↓iI,↓pR,iN,iO,aWF,aWE,aWC,aWD,cJ,↓wA,↓wC,wB,cL,cK,b7,b8,b9,reduceIte,reduceCtorEq,aA,cA])|(refine cI (hok) rfl rfl ?_)|(refine cM (hok) rfl rfl ?_)|(with_reducible refine cP ?_ ?_; focus (simp only [dW]; omega))|((first|apply cG|apply cH|apply cF)<;>intro h<;>try simp only [h]))
     all_goals first
      |(refine fH (cU _ rfl ⟨⟨rfl,rfl⟩,⟨rfl,rfl⟩,⟨rfl,rfl⟩,⟨rfl,rfl⟩,trivial⟩) hlt (yA hinv ?_); focus (clear hok; rw [hst]; simp_all; done))
      |(refine (congrArg (fun b=>[D.bool b]) (qW hlt ?_)).symm; focus (clear hok; rw [hst]; simp_all; done))
      | trace_state
   ·intro hinv hd
    have hall:=aAU hinv
    rw [hall]
    simp only [Off.s,dU]
    repeat' (first|(simp only [cX,cR,cO,hd,cJ,↓wA,↓wC,wB,cL,cK,b7,b8,b9,reduceIte,reduceCtorEq,aA,cA])|((first|apply cG|apply cH|apply cF)<;>intro h<;>try simp only [h]))
 cases hho:sA o with
 | true=>simpa using body hho
 | false =>
  rw [hh] at hho
  rw [bU]
  generalize hlg:eN o.led=b5 at *
  generalize dC o.day 0 20000=b1 at *
  generalize dC o.kept 0 999=b3 at *
  generalize dC o.moved 0 999=b4 at *
  refine cW aOQ [] ?_
  dsimp only [aOQ,cT,c7]
  simp only [Off.s,dU]
  repeat' (first|(simp only [cX,cR,cJ,cO,↓wA,↓wC,wB,cL,cK,b7,b8,b9,reduceIte,reduceCtorEq,aA,cA])|(refine cI (hDay) rfl rfl ?_)|(refine cM (hDay) rfl rfl ?_)|(refine cI (hK) rfl rfl ?_)|(refine cM (hK) rfl rfl ?_)|(refine cI (hM) rfl rfl ?_)|(refine cM (hM) rfl rfl ?_)|(refine cI (hL) rfl rfl ?_)|(refine cM (hL) rfl rfl ?_)|((first|apply cG|apply cH|apply cF)<;>intro h<;>try simp only [h]))
  all_goals first
   | rfl
   |(exfalso; clear hDay hK hM hL body; simp_all; done)
   |(exfalso; clear hDay hK hM hL body; simp_all; omega)
theorem f8 (o:Off) (ho:o.ok0):Fn prog 53 [o.s] (fun rs=>rs=[.bool (dP o)]):=by
 have hDay:=aGk o.day
 have hK:=iK o.kept 0 999
 have hM:=iK o.moved 0 999
 have hL:=aIW o.led ho.2.1 ho.2.2
 have hlen:=ho.1.1
 have hh:sA o=(dC o.day 0 20000 && decide ((o.cs.length:Int)<=6) && dC o.kept 0 999 && dC o.moved 0 999 && aCm o.led):=rfl
 unfold aCm at hh
 unfold dP
 have body:sA o=true->Fn prog 53 [o.s] (fun rs=>rs=[.bool (yZ o.cs)]):=by
  intro hho
  rw [hh] at hho
  simp only [aQ] at hho
  obtain ⟨⟨⟨⟨q1,q2⟩,q3⟩,q4⟩,q5⟩:=hho
  rw [q1] at hDay
  rw [q3] at hK
  rw [q4] at hM
  have q2':=of_decide_eq_true q2
  have e2:decide ((6:Int) < (o.cs.length:Int))=false:=decide_eq_false (by omega)
  generalize hlg:eN o.led=b5 at *
  refine cW aQm [] ?_
  dsimp only [aQm,cT,c7]
  simp only [Off.s,dU]
  repeat' (first|(simp only [cX,cR,cJ,cO,e2,↓wA,↓wC,wB,cL,cK,b7,b8,b9,reduceIte,reduceCtorEq,aA,cA])|(refine cI (hDay) rfl rfl ?_)|(refine cM (hDay) rfl rfl ?_)|(refine cI (hK) rfl rfl ?_)|(refine cM (hK) rfl rfl ?_)|(refine cI (hM) rfl rfl ?_)|(refine cM (hM) rfl rfl ?_)|(refine cI (hL) rfl rfl ?_)|(refine cM (hL) rfl rfl ?_)|((first|apply cG|apply cH|apply cF)<;>intro h<;>try simp only [h]))
  any_goals (exfalso; clear hDay hK hM hL; simp_all; done)
  all_goals
   refine dR o.cs.length (fun i:Nat=>⟨[(1,.ptr 0 0 []),(3,.d (.int .i64 i))],[.box o.s]⟩) (fun i=>∀ j,j < i->aCj o.cs j=true) (cU _ rfl ⟨⟨rfl,rfl⟩,⟨rfl,rfl⟩,trivial⟩) (fun j hj=>by omega) ?_ ?_
   ·intro i hlt hinv hd h0
    obtain ⟨x,hr⟩:=dQ hlt
    have hst:=aCI hr
    have hok:=aHW x (ho.1.2 x (aD hr))
    simp only [Off.s,dU]
    rcases aRp (x:=x) hlt with ⟨hg,hl⟩|⟨y,hg,h1,hy,hq⟩
    ·rw [hl,aW] at hst
     repeat' (first|(simp only [cX,cR,cO,c6,hd,h0,hg,aB,hr,aC,↓iI,aWF,aWE,aWC,aWD,cJ,↓wA,↓wC,wB,cL,cK,b7,b8,b9,reduceIte,reduceCtorEq,aA,cA])|(refine cI (hok) rfl rfl ?_)|(refine cM (hok) rfl rfl ?_)|(with_reducible refine cP ?_ ?_; focus (simp only [dW]; omega))|((first|apply cG|apply cH|apply cF)<;>intro h<;>try simp only [h]))
     all_goals first
      |(refine fH (cU _ rfl ⟨⟨rfl,rfl⟩,⟨rfl,rfl⟩,trivial⟩) hlt (yA hinv ?_); focus (clear hok; rw [hst]; simp_all; done))
      |(refine (congrArg (fun b=>[D.bool b]) (qW hlt ?_)).symm; focus (clear hok; rw [hst]; simp_all; done))
      | trace_state
    ·repeat' (first|(simp only [cX,cR,cO,c6,hd,h0,hg,h1,hy,hq,aB,hr,aC,↓iI,↓pR,iN,iO,aWF,aWE,aWC,aWD,cJ,↓wA,↓wC,wB,cL,cK,b7,b8,b9,reduceIte,reduceCtorEq,aA,cA])|(refine cI (hok) rfl rfl ?_)|(refine cM (hok) rfl rfl ?_)|(with_reducible refine cP ?_ ?_; focus (simp only [dW]; omega))|((first|apply cG|apply cH|apply cF)<;>intro h<;>try simp only [h]))
     all_goals first
      |(refine fH (cU _ rfl ⟨⟨rfl,rfl⟩,⟨rfl,rfl⟩,trivial⟩) hlt (yA hinv ?_); focus (clear hok; rw [hst]; simp_all; done))
      |(refine (congrArg (fun b=>[D.bool b]) (qW hlt ?_)).symm; focus (clear hok; rw [hst]; simp_all; done))
      | trace_state
   ·intro hinv hd
    have hall:=aAU hinv
    rw [hall]
    simp only [Off.s,dU]
    repeat' (first|(simp only [cX,cR,cO,hd,cJ,↓wA,↓wC,wB,cL,cK,b7,b8,b9,reduceIte,reduceCtorEq,aA,cA])|((first|apply cG|apply cH|apply cF)<;>intro h<;>try simp only [h]))
 cases hho:sA o with
 | true=>simpa using body hho
 | false =>
  rw [hh] at hho
  rw [bU]
  generalize hlg:eN o.led=b5 at *
  generalize dC o.day 0 20000=b1 at *
  generalize dC o.kept 0 999=b3 at *
  generalize dC o.moved 0 999=b4 at *
  refine cW aQm [] ?_
  dsimp only [aQm,cT,c7]
  simp only [Off.s,dU]
  repeat' (first|(simp only [cX,cR,cJ,cO,↓wA,↓wC,wB,cL,cK,b7,b8,b9,reduceIte,reduceCtorEq,aA,cA])|(refine cI (hDay) rfl rfl ?_)|(refine cM (hDay) rfl rfl ?_)|(refine cI (hK) rfl rfl ?_)|(refine cM (hK) rfl rfl ?_)|(refine cI (hM) rfl rfl ?_)|(refine cM (hM) rfl rfl ?_)|(refine cI (hL) rfl rfl ?_)|(refine cM (hL) rfl rfl ?_)|((first|apply cG|apply cH|apply cF)<;>intro h<;>try simp only [h]))
  all_goals first
   | rfl
   |(exfalso; clear hDay hK hM hL body; simp_all; done)
   |(exfalso; clear hDay hK hM hL body; simp_all; omega)
def aQ5:Sh:=.st (.cons (.int .i64) (.cons (.sl 4 (.st (.cons (.int .i64) (.cons (.int .i64) (.cons (.int .i64) (.cons (.sl 1 (.int .i64)) .nil)))))) (.cons (.int .i64) (.cons (.int .i64) (.cons (.sl 1 .str) .nil)))))
theorem aSw (x:D) (h:jR (.int .i64) x):∃ n:Int,x=iD n/\True:=by
 obtain ⟨n,rfl,_⟩:=h
 exact ⟨n,rfl,trivial⟩
theorem aI2 (x:D) (h:jR .str x):∃ s:List UInt8,x=.str s/\s.length<=maxLen:=by
 obtain ⟨s,rfl,hs⟩:=h
 exact ⟨s,rfl,hs⟩
theorem aQw (x:D) (h:jR (.st (.cons (.int .i64) (.cons (.int .i64) (.cons (.int .i64) (.cons (.sl 1 (.int .i64)) .nil))))) x):∃ c:Cs,x=c.s/\c.h.length<=maxLen:=by
 obtain ⟨_,rfl,_,_,rfl,⟨i,rfl,_⟩,_,_,rfl,⟨a,rfl,_⟩,_,_,rfl,⟨d,rfl,_⟩,_,_,rfl,⟨ds,rfl,h1,h2⟩,rfl⟩:=h
 obtain ⟨v,hv,hl,_⟩:=tH (f:=iD) (P:=fun _=>True) aSw ds h2
 exact ⟨⟨i,a,d,v⟩,by rw [hv]; rfl,by rw [hl]; exact h1⟩
def Off.raw (o:Off):Prop:=o.cs.length<=maxLen/\(∀ x∈o.cs,x.h.length<=maxLen)/\o.led.length<=maxLen/\∀ s∈o.led,s.length<=maxLen
theorem aSs (x:D) (h:jR aQ5 x):∃ o:Off,x=o.s/\o.raw:=by
 obtain ⟨_,rfl,_,_,rfl,⟨day,rfl,_⟩,_,_,rfl,⟨cs,rfl,c1,c2⟩,_,_,rfl,⟨k,rfl,_⟩,_,_,rfl,⟨m,rfl,_⟩,_,_,rfl,⟨ls,rfl,l1,l2⟩,rfl⟩:=h
 obtain ⟨xs,hxs,hxl,hxp⟩:=tH (f:=Cs.s) (P:=fun c=>c.h.length<=maxLen) aQw cs c2
 obtain ⟨L,hL,hLl,hLp⟩:=tH (f:=D.str) (P:=fun s=>s.length<=maxLen) aI2 ls l2
 exact ⟨⟨day,xs,k,m,L⟩,by rw [hxs,hL]; rfl,by rw [hxl]; exact c1,hxp,by rw [hLl]; exact l1,hLp⟩
theorem aLB (o:Off) (h:o.raw):Fn prog 27 [o.s,.int .i64 1048576] (fun rs=>∃ m:Int,rs=[.int .i64 m]/\-1<=m/\m<=1048576/\(0<=m->o.ok0)) :=
 aG0 o 1048576 (by decide) (by decide) h.1 h.2.1 h.2.2.1 h.2.2.2
structure Con where
 o:Off
 d:List UInt8
 p:List UInt8
 c:Int
def oZ (x y:D):D:=.st (.cons x (.cons y .nil))
def Con.s (x:Con):D:=oZ x.o.s (fE x.d x.p x.c)
def Con.o' (x:Con):D:=oZ x.o.o (fE x.d x.p x.c)
def Con.raw (x:Con):Prop:=x.o.raw/\x.d.length<=maxLen/\x.p.length<=maxLen
def Con.ok0 (x:Con):Prop:=x.o.ok0/\x.d.length + x.p.length<=1048576
def oG (x:Con):Bool:=dP x.o && lv x.d x.p x.c
theorem eF (d p:List UInt8) (c:Int):(fE d p c).noOwn=true:=rfl
theorem mH (d p:List UInt8) (c:Int):(fE d p c).unown=fE d p c:=rfl
theorem jQ (d p:List UInt8) (c:Int):(fE d p c).isV=true:=rfl
theorem iC (d p:List UInt8) (c:Int):(fE d p c).size=3:=rfl
theorem aWP (o:Off):o.o.noOwn=false:=by simp [Off.o,dU,D.noOwn]
theorem aWx (x:Con):x.s.noOwn=true:=by simp [Con.s,oZ,D.noOwn,aWv,eF]
theorem aWB (x:Con):x.s.unown=x.s:=by simp [Con.s,oZ,D.unown,aWu,mH]
theorem aWJ (x:Con):x.o'.unown=x.s:=by simp [Con.o',Con.s,oZ,D.unown,aWH,mH]
theorem aWy (x:Con):x.s.isV=true:=rfl
theorem aWA (x:Con):x.s.size=8:=rfl
theorem aWL (x:Con):x.o'.isV=true:=rfl
theorem aWI (x:Con):x.o'.size=8:=rfl
theorem fT {x:Con} {K:SV->Prop}:dG 0 0 (.d (.ptr x.s)) K=K (.d (.ptr x.o.s)):=by simp [Con.s,oZ,dG,D.pre,D.nth,D.size,Off.s,dU,fE]
theorem x6 {x:Con} {K:SV->Prop}:dG 1 5 (.d (.ptr x.s)) K=K (.d (.ptr (fE x.d x.p x.c))):=by simp [Con.s,oZ,dG,D.pre,D.nth,D.size,Off.s,dU,fE]
theorem oW {x:Con}:fL [0] x.s=0:=rfl
theorem lA {x:Con}:fL [1] x.s=5:=rfl
theorem qU {x:Con}:gU [0] x.s=some x.o.s:=rfl
theorem lC {x:Con}:gU [1] x.s=some (fE x.d x.p x.c):=rfl
theorem eA {o:List Ob} {K:SV->Prop} {x:Con}:eU o (some 8) x.s K=K (.d x.s):=by simp [Con.s,oZ,eU,D.size,D.noOwn,Off.s,dU,cX,cR,fE]
theorem kF {o:List Ob} {K:SV->Prop} {d p:List UInt8} {c:Int}:eU o (some 3) (fE d p c) K=K (.d (fE d p c)):=by simp [eU,D.size,D.noOwn,fE]
theorem aKR (d p:List UInt8) (c n:Int) (h0:0<=n) (h1:n<=1048576) (hd:d.length<=maxLen) (hp:p.length<=maxLen):Fn prog 6 [fE d p c,.int .i64 n] (fun rs=>∃ m:Int,rs=[.int .i64 m]/\-1<=m/\m<=n/\(0<=m->d.length + p.length<=1048576)):=by
 rw [eD] at hd hp
 refine cW ef6 [] ?_
 dsimp only [ef6,cT,c7]
 simp only [fE]
 repeat' (first|(simp only [↓wA,↓wC,wB,cL,cK,b7,b8,b9,reduceIte,reduceCtorEq,aA,cA,eQ])|(refine cP (by simp only [dW]; omega) ?_)|(refine cP (by simp only [dW]; simp only [decide_eq_true_eq,decide_eq_false_iff_not] at *; omega) ?_)|((first|apply cG|apply cH|apply cF)<;>intro h<;>try simp only [h]))
 all_goals (simp only [decide_eq_true_eq,decide_eq_false_iff_not] at *; exact ⟨_,rfl,by omega,by omega,by omega⟩)
theorem zA (x:Con) (h:x.raw):Fn prog 10 [x.s,.int .i64 1048576] (fun rs=>∃ m:Int,rs=[.int .i64 m]/\-1<=m/\m<=1048576/\(0<=m->x.ok0)):=by
 have hs:=aLB x.o h.1
 refine cW aUm [] ?_
 dsimp only [aUm,cT,c7]
 repeat' (first|(simp only [oW,lA,qU,lC,eF,↓dF,↓kF,aWx,aWy,aWv,aWw,cJ,↓wA,↓wC,wB,cL,cK,b7,b8,b9,reduceIte,reduceCtorEq,aA,cA,eQ])|((first|apply cG|apply cH|apply cF)<;>intro h<;>try simp only [h]))
 refine lT hs (by simp [dB,dI,aWu]) fun rs h'=>?_
 obtain ⟨m,rfl,m1,m2,m3⟩:=h'
 refine ⟨.inl rfl,?_⟩
 cases hm:decide (m < 0) with
 | true =>
  repeat' (first|(simp only [hm,↓wA,↓wC,wB,cL,cK,b7,b8,b9,reduceIte,reduceCtorEq,aA,cA,eQ])|((first|apply cG|apply cH|apply cF)<;>intro h<;>try simp only [h]))
  exact ⟨-1,rfl,by omega,by omega,by omega⟩
 | false =>
  have hm':=of_decide_eq_false hm
  repeat' (first|(simp only [hm,oW,lA,qU,lC,eF,↓dF,↓kF,cJ,↓wA,↓wC,wB,cL,cK,b7,b8,b9,reduceIte,reduceCtorEq,aA,cA,eQ])|((first|apply cG|apply cH|apply cF)<;>intro h<;>try simp only [h]))
  refine lT (aKR x.d x.p x.c m (by omega) m2 h.2.1 h.2.2) (by simp [dB,dI,mH]) fun rs h'=>?_
  obtain ⟨q,rfl,q1,q2,q3⟩:=h'
  refine ⟨.inl rfl,?_⟩
  cases hq:decide (q < 0) with
  | true =>
   repeat' (first|(simp only [hq,↓wA,↓wC,wB,cL,cK,b7,b8,b9,reduceIte,reduceCtorEq,aA,cA,eQ])|((first|apply cG|apply cH|apply cF)<;>intro h<;>try simp only [h]))
   exact ⟨-1,rfl,by omega,by omega,by omega⟩
  | false =>
   have hq':=of_decide_eq_false hq
   repeat' (first|(simp only [hq,↓wA,↓wC,wB,cL,cK,b7,b8,b9,reduceIte,reduceCtorEq,aA,cA,eQ])|((first|apply cG|apply cH|apply cF)<;>intro h<;>try simp only [h]))
   exact ⟨q,rfl,by omega,by omega,fun _=>⟨m3 (by omega),q3 (by omega)⟩⟩
theorem pQ (x:Con) (h:x.ok0):Fn prog 14 [x.s,x.s] (fun rs=>rs=[.bool true]):=by
 have h1:=aDA x.o h.1
 have h2:=aMB x.d x.p x.c
 refine cW aUB [] ?_
 dsimp only [aUB,cT,c7]
 repeat' (first|(simp only [oW,lA,qU,lC,eF,↓dF,↓kF,aWx,aWy,aWv,aWw,cJ,decide_true,↓wA,↓wC,wB,cL,cK,b7,b8,b9,reduceIte,reduceCtorEq,aA,cA,eQ])|(refine cI h1 (by simp [dB,dI,aWu]) rfl ?_)|(refine cI h2 (by simp [dB,dI,mH]) rfl ?_)|((first|apply cG|apply cH|apply cF)<;>intro h<;>try simp only [h]))
 all_goals trace_state
theorem qT (x:Con) (h:x.ok0):Fn prog 34 [x.s] (fun rs=>rs=[.bool (oG x)]):=by
 have h1:=jV x.o h.1
 have h2:=v7 x.d x.p x.c (by have:=h.2; omega)
 unfold oG
 cases hb:dP x.o<;>rw [hb] at h1
 all_goals
  refine cW aVh [] ?_
  dsimp only [aVh,cT,c7]
  repeat' (first|(simp only [oW,lA,qU,lC,eF,↓dF,↓kF,aWx,aWy,aWv,aWw,cJ,decide_true,↓wA,↓wC,wB,cL,cK,b7,b8,b9,reduceIte,reduceCtorEq,aA,cA,eQ])|(refine cI h1 (by simp [dB,dI,aWu]) rfl ?_)|(refine cI h2 (by simp [dB,dI,mH]) rfl ?_)|((first|apply cG|apply cH|apply cF)<;>intro h<;>try simp only [h]))
 all_goals simp
theorem aCL (x:Con) (h:x.ok0):Fn prog 29 [x.s] (fun rs=>rs=[.bool (oG x)]):=by
 have h1:=f8 x.o h.1
 have h2:=aDP x.d x.p x.c (by have:=h.2; omega)
 unfold oG
 cases hb:dP x.o<;>rw [hb] at h1
 all_goals
  refine cW aVG [] ?_
  dsimp only [aVG,cT,c7]
  repeat' (first|(simp only [oW,lA,qU,lC,eF,↓dF,↓kF,aWx,aWy,aWv,aWw,cJ,decide_true,↓wA,↓wC,wB,cL,cK,b7,b8,b9,reduceIte,reduceCtorEq,aA,cA,eQ])|(refine cI h1 (by simp [dB,dI,aWu]) rfl ?_)|(refine cI h2 (by simp [dB,dI,mH]) rfl ?_)|((first|apply cG|apply cH|apply cF)<;>intro h<;>try simp only [h]))
 all_goals simp
theorem wG (x:Con) (h:x.ok0):Fn prog 12 [x.s] (fun rs=>rs=[x.o']):=by
 have h1:=aE4 x.o h.1
 have h2:=aLK x.d x.p x.c
 refine cW aVp [[1,1,1,1,0],[1,1,1,1,0],[1,1,1,1,1],[1,1,1,1,1]] ?_
 dsimp only [aVp,cT,c7]
 repeat' (first|(simp only [oW,lA,qU,lC,eF,↓dF,↓kF,aWx,aWy,aWv,aWw,aWO,aWM,aWP,jQ,iC,cJ,decide_true,↓wA,↓wC,wB,cL,cK,b7,b8,b9,reduceIte,reduceCtorEq,aA,cA,eQ])|(refine cI h1 (by simp [dB,dI,aWu]) rfl ?_)|(refine cI h2 (by simp [dB,dI,mH]) rfl ?_)|((first|apply cG|apply cH|apply cF)<;>intro h<;>try simp only [h]))
 simp only [Off.o,dU]
 refine eI _ (e8 2 none [0,1] (es:=4) (xs:=dl Cs.o x.o.cs) rfl rfl) fun v1=>?_
 simp only [dY,cX,cR,eF,cJ,↓wA,↓wC,wB,cL,cK,b7,b8,b9,reduceIte,reduceCtorEq,aA,cA,eQ]
 refine eI _ (e8 2 none [0,4] (es:=1) (xs:=dl D.str x.o.led) rfl rfl) fun v2=>?_
 simp only [dY,cX,cR,eF,fE,cJ,↓wA,↓wC,wB,cL,cK,b7,b8,b9,reduceIte,reduceCtorEq,aA,cA,eQ]
 refine c8 (gB 1 5 4 none [0,1] rfl rfl rfl rfl (by decide) rfl) ?_
 simp only [dY,cX,cR,cJ,↓wA,↓wC,wB,cL,cK,b7,b8,b9,reduceIte,reduceCtorEq,aA,cA,eQ]
 refine c8 (gB 1 7 6 none [0,4] rfl rfl rfl rfl (by decide) rfl) ?_
 simp only [dY,cX,cR,cJ,↓wA,↓wC,wB,cL,cK,b7,b8,b9,reduceIte,reduceCtorEq,aA,cA,eQ]
 rfl
def aSC:Sh:=.st (.cons .str (.cons .str (.cons (.int .i64) .nil)))
def conSh:Sh:=.st (.cons aQ5 (.cons aSC .nil))
theorem aLM (x:D) (h:jR conSh x):∃ c:Con,x=c.s/\c.raw:=by
 obtain ⟨_,rfl,xo,_,rfl,h1,xl,_,rfl,h2,rfl⟩:=h
 obtain ⟨o,rfl,hr⟩:=aSs xo h1
 obtain ⟨_,rfl,_,_,rfl,⟨d,rfl,hd⟩,_,_,rfl,⟨p,rfl,hp⟩,_,_,rfl,⟨c,rfl,_⟩,rfl⟩:=h2
 exact ⟨⟨o,d,p,c⟩,rfl,hr,hd,hp⟩
theorem aGR {w:World} {M:Nat->Prop}:∀ (L:List (List UInt8)) (ds:List Value) (fps:List Nat),(dl D.str L).rep w M ds fps->ds=L.map (fun s=>Value.string ⟨s.toArray⟩)
 | [],ds,fps,h=>h.1
 | s :: L,ds,fps,h=>by
  obtain ⟨c1,c2,f1,f2,rfl,_,h1,h2⟩:=h
  obtain ⟨rfl,_⟩:=h1
  rw [aGR L c2 f2 h2]; rfl
theorem aQg (L:List (List UInt8)) (sep:List UInt8) (hN:L.length<=1048576) (hlen:(Lib.join L sep).length<=140737488355328):Fn prog 193 [.sl false 1 (dl D.str L),.str sep] (fun rs=>rs=[.str (Lib.join L sep)]):=by
 intro M vs w hM hG hv
 obtain ⟨cs,us,f1,f2,rfl,_,⟨_,a,c,ds,fps,rfl,hle,hds,hor⟩,⟨cs2,us2,f3,f4,rfl,_,⟨rfl,_⟩,rfl,_⟩⟩:=hv
 have hd:=aGR L ds fps hds
 have hl:(dl D.str L).len=L.length:=cO L
 have e:(L.map fun s:List UInt8=>(⟨s.toArray⟩:ByteArray)).map (·.data.toList)=L:=by
  rw [bW]; exact (List.map_congr_left (fun s _=>by simp)).trans (List.map_id _)
 have e2:(⟨sep.toArray⟩:ByteArray).data.toList=sep:=by simp
 have main:Calls prog.P 193 #[.slice a (dl D.str L).len c,.string ⟨sep.toArray⟩] w fun e w'=>e=.returned (.string ⟨(Lib.join L sep).toArray⟩)/\lL w w':=by
  cases L with
  | nil=>exact (Go.Proofs.Tryz.strings_Join_none a c ⟨sep.toArray⟩ w).mono (by rintro e w' ⟨rfl,rfl⟩; exact ⟨rfl,lL.refl _⟩)
  | cons x r =>
   rw [hl] at hle hor ⊢
   simp only [Bool.false_eq_true,if_false] at hor
   obtain ⟨rfl,_,h0|⟨ad,rfl,hh⟩⟩:=hor
   ·simp at h0
   ·rcases hh with h|⟨hlt,hnM,hcell⟩
    ·rw [h] at hd; simp at hd
    ·have h0:=hcell 0 _ (by rw [hd]; rfl)
     obtain ⟨bk,o,sp⟩:=ad
     cases sp with
     | some s =>
      simp only [World.cell?,Addr.add,if_true] at h0
      split at h0
      ·simp at h0
      ·cases h0
     | none =>
      have hJ:=Go.Proofs.Tryz.strings_Join bk o c ((x :: r).map fun s:List UInt8=>(⟨s.toArray⟩:ByteArray)) ⟨sep.toArray⟩ w (fun j y hy=>by
       rw [List.getElem?_map] at hy
       obtain ⟨s,hs,rfl⟩:=Option.map_eq_some_iff.1 hy
       have:=hcell j (.string ⟨s.toArray⟩) (by rw [hd,List.getElem?_map,hs]; rfl)
       unfold Addr.add at this
       split at this
       ·rename_i hj; subst hj; exact this
       ·exact this) hlt (by rw [aM]; omega) (by rw [aM]; exact hle) (by rw [e,e2]; exact hlen)
      rw [e,e2,aM] at hJ
      exact hJ
 refine Calls.mono main ?_
 rintro e w' ⟨rfl,hx⟩
 exact ⟨[.str (Lib.join L sep)],[.string ⟨(Lib.join L sep).toArray⟩],[],rfl,rfl,uS rfl,bR,(fun b hb=>by cases hb),hx⟩
theorem tG (sep:List UInt8) (k:Nat):∀ r:List (List UInt8),(∀ x∈r,x.length<=k)->(Lib.joinTail sep r).length<=r.length * (sep.length + k)
 | [],_=>by simp [Lib.joinTail]
 | x :: r,h=>by
  have h1:=tG sep k r (fun y hy=>h y (aY _ hy))
  have h2:=h x aZ
  have:Lib.joinTail sep (x :: r)=sep ++ x ++ Lib.joinTail sep r:=rfl
  rw [this]
  simp only [aE,aF,bY,bZ]
  omega
theorem aCW (sep:List UInt8) (k:Nat):∀ r:List (List UInt8),(∀ x∈r,x.length<=k)->(Lib.join r sep).length<=r.length * (sep.length + k)
 | [],_=>by simp [Lib.join]
 | x :: r,h=>by
  have h1:=tG sep k r (fun y hy=>h y (aY _ hy))
  have h2:=h x aZ
  rw [Lib.join_cons]
  simp only [aE,aF,bY,bZ]
  omega
theorem aAd {v:List Int} (hv:∀ n∈v,dW .i64 n):∀ x∈v.map Lib.itoa,x.length<=21:=by
 intro x hx
 obtain ⟨n,hn,rfl⟩:=List.mem_map.1 hx
 exact eT n (hv n hn)
theorem aAF (v:List Int) (sep:List UInt8) (hv:∀ n∈v,dW .i64 n) (hl:v.length<=1000) (hs:sep.length<=1000):Fn prog 152 [.sl false 1 (dl iD v),.str sep] (fun rs=>rs=[.str (Lib.join (v.map Lib.itoa) sep)]):=by
 have hL:=aCW sep 21 (v.map Lib.itoa) (aAd hv)
 have hb:(v.map Lib.itoa).length * (sep.length + 21)<=1000 * 1021:=Nat.mul_le_mul (by simpa using hl) (by omega)
 have hJ:=aQg (v.map Lib.itoa) sep (by simp; omega) (by omega)
 refine cW aRR [] ?_
 dsimp only [aRR,cT,c7]
 simp only [↓wA,↓wC,wB,cL,cK,b7,b8,b9,reduceIte,reduceCtorEq,aA,cA]
 simp only [cO,↓wA,↓wC,wB,cL,cK,b7,b8,b9,reduceIte,reduceCtorEq,aA,cA]
 refine cQ (by omega) ?_
 have hz:jC (aG (↑v.length:Int).toNat (D.str []))=dl D.str ((v.map Lib.itoa).take 0 ++ aG (v.length - 0) []):=by
  rw [pE]; simp
 rw [hz]
 refine dR v.length (fun i:Nat=>⟨[(1,.d (.str sep)),(5,.own 0),(11,.d (.sl false 1 (dl iD v))),(12,.d (.int .i64 v.length)),(13,.d (.int .i64 i))],[.val (.sl true 1 (dl D.str ((v.map Lib.itoa).take i ++ aG (v.length - i) [])))]⟩) (fun _=>True) (cU _ rfl ⟨⟨rfl,rfl⟩,⟨rfl,rfl⟩,⟨rfl,rfl⟩,⟨rfl,rfl⟩,⟨rfl,rfl⟩,trivial⟩) trivial ?_ ?_
 ·intro i hlt _ hd h0
  obtain ⟨n,hr⟩:=dQ hlt
  have hrs:(v.map Lib.itoa)[i]?=some (Lib.itoa n):=by rw [List.getElem?_map,hr]; rfl
  have hD:=fG n (hv n (aD hr))
  have hn:((v.map Lib.itoa).take i ++ aG (v.length - i) ([]:List UInt8))[i]?=some []:=by
   rw [List.getElem?_append_right (by simp; omega),aJ,aM,aL (by omega),aO,show v.length - i=(v.length - (i + 1)) + 1 by omega]; rfl
  have hfs:(dl D.str ((v.map Lib.itoa).take i ++ aG (v.length - i) ([]:List UInt8))).setN i (D.str (Lib.itoa n))=dl D.str ((v.map Lib.itoa).take (i + 1) ++ aG (v.length - (i + 1)) []):=by
   have hl:v.length=(v.map Lib.itoa).length:=by simp
   rw [gV]
   conv=>lhs; rw [hl]
   conv=>rhs; rw [hl]
   rw [vN hrs]
  repeat' (first|(simp only [cO,c6,hd,h0,aB,hr,hn,hfs,aC,cJ,eJ,iD,↓wA,↓wC,wB,cL,cK,b7,b8,b9,reduceIte,reduceCtorEq,aA,cA])|(refine cI hD rfl rfl ?_)|(with_reducible refine cP ?_ ?_; focus (simp only [dW]; omega))|((first|apply cG|apply cH|apply cF)<;>intro h<;>try simp only [h]))
  all_goals exact ⟨i + 1,(cU _ rfl ⟨⟨rfl,rfl⟩,⟨rfl,rfl⟩,⟨rfl,rfl⟩,⟨rfl,rfl⟩,⟨rfl,rfl⟩,trivial⟩),by omega,by omega⟩
 ·intro _ hd
  have h1:(v.map Lib.itoa).take v.length=v.map Lib.itoa:=bE (by simp)
  rw [h1,aO,bJ,aN]
  repeat' (first|(simp only [cO,hd,↓wA,↓wC,wB,cL,cK,b7,b8,b9,reduceIte,reduceCtorEq,aA,cA])|(refine cI hJ (by simp [dB,dI,kP,D.unown,fA]) rfl ?_)|((first|apply cG|apply cH|apply cF)<;>intro h<;>try simp only [h]))
  all_goals trace_state
def mL (v:List Int):List UInt8:=if v=[] then [] else [32,104,101,108,100,32] ++ Lib.join (v.map Lib.itoa) [44]
theorem aIP (u:List Int) (n:Int):mL (u ++ [n])=mL u ++ (if u=[] then [32,104,101,108,100,32] else [44]) ++ Lib.itoa n:=by
 cases u with
 | nil=>simp [mL,Lib.join_one]
 | cons x r =>
  have h1:Lib.joinTail [44] (r.map Lib.itoa ++ [Lib.itoa n])=Lib.joinTail [44] (r.map Lib.itoa) ++ ([44] ++ Lib.itoa n):=by simp [Lib.joinTail]
  simp only [mL,aK,if_neg (List.cons_ne_nil _ _),a7,bQ,bX,Lib.join_cons,h1,aI]
theorem aGx {v:List Int} {i:Nat} {n:Int} (hr:v[i]?=some n):mL (v.take (i + 1))=mL (v.take i) ++ (if i=0 then [32,104,101,108,100,32] else [44]) ++ Lib.itoa n:=by
 have hi:=cV hr
 rw [e7 hr,aIP]
 by_cases h:i=0
 ·subst h; simp
 ·have:v.take i≠[]:=by
   intro h'
   have:=congrArg List.length h'
   rw [aJ,aL (by omega)] at this
   exact h this
  rw [if_neg this,if_neg h]
theorem vO {v:List Int} (hv:∀ n∈v,dW .i64 n):(mL v).length<=6 + v.length * 22:=by
 unfold mL
 split
 ·simp
 ·have:=aCW [44] 21 (v.map Lib.itoa) (aAd hv)
  simp only [aE,aM,aF,aH] at this ⊢
  omega
def aLs (a:Int):List UInt8:=if a=1 then [107,101,101,112] else if a=2 then [116,114,97,110,115,102,101,114] else [100,101,115,116,114,111,121]
def txt (x:Cs):List UInt8:=aLs x.a ++ [32,100,117,101,32] ++ Lib.itoa x.d ++ mL x.h
theorem aBG {x:Cs} (h:gJ x=true):(x.a=1\/x.a=2\/x.a=3)/\(0<=x.i/\dW .i64 x.i)/\(0<=x.d/\dW .i64 x.d)/\x.h.length<=5/\∀ n∈x.h,0<=n/\dW .i64 n:=by
 simp only [gJ,aQ,dC,decide_eq_true_eq,aS] at h
 obtain ⟨⟨⟨⟨h1,h2⟩,h3⟩,h4⟩,h5,_⟩:=h
 refine ⟨by omega,⟨by omega,by simp only [dW]; omega⟩,⟨by omega,by simp only [dW]; omega⟩,by omega,fun n hn=>?_⟩
 have:=h5 n hn
 exact ⟨by omega,by simp only [dW]; omega⟩
theorem aMf (a:Int):(aLs a).length<=8:=by
 unfold aLs
 split
 ·simp
 ·split<;>simp
theorem aHr:((1:Int) - 1).toNat=0:=rfl
theorem aGL:((2:Int) - 1).toNat=1:=rfl
theorem aCJ:((3:Int) - 1).toNat=2:=rfl
theorem xS:decide ((0:Int) < ((0:Nat):Int))=false:=rfl
theorem aEW:((1:Int)).toNat=1:=rfl
theorem aFh:((2:Int)).toNat=2:=rfl
theorem aAn:((3:Int)).toNat=3:=rfl
theorem aGF (x:Cs) (h:gJ x=true):Fn prog 156 [x.s] (fun rs=>rs=[.str (txt x)]):=by
 obtain ⟨hA,_,h3,h4,h5⟩:=aBG h
 have hD:=fG x.d h3.2
 have hH:=aAF x.h [44] (fun n hn=>(h5 n hn).2) (by omega) (by simp)
 have hT:=vO (v:=x.h) (fun n hn=>(h5 n hn).2)
 have hi:=eT x.d h3.2
 have hJl:=aCW [44] 21 (x.h.map Lib.itoa) (aAd (fun n hn=>(h5 n hn).2))
 simp only [aM,aF,aH] at hJl
 obtain ⟨xi,a,d,hs⟩:=x
 simp only at hA h3 h4 h5 hD hH hT hi hJl
 unfold txt
 rcases hA with rfl|rfl|rfl
 all_goals
  cases hs with
  | nil =>
   refine cW aI7 [] ?_
   dsimp only [aI7,cT,c7]
   simp only [Cs.s,Cs.p]
   repeat' (first|(simp only [cJ,cY,xS,aHr,aGL,aCJ,cO,↓wA,↓wC,wB,cL,cK,b7,b8,b9,reduceIte,reduceCtorEq,aA,cA])|(refine cI hD rfl rfl ?_)|(refine dL ?_)|(with_reducible refine bD ?_ ?_)|(with_reducible refine cQ ?_ ?_; focus ((try simp only [aE,aF,aH]); omega))|(with_reducible refine cP ?_ ?_; focus (simp only [dW]; omega))|((first|apply cG|apply cH|apply cF)<;>intro h<;>try simp only [h]))
   all_goals (simp [aLs,mL]; done)
  | cons n r =>
   have hd0:decide ((0:Int) < ((n :: r).length:Int))=true:=decide_eq_true (by simp only [aF]; omega)
   have hd1:decide (((n :: r).length:Int) > 0)=true:=hd0
   have hT2:mL (n :: r)=[32,104,101,108,100,32] ++ Lib.join ((n :: r).map Lib.itoa) [44]:=rfl
   generalize n :: r=hs at *
   refine cW aI7 [] ?_
   dsimp only [aI7,cT,c7]
   simp only [Cs.s,Cs.p]
   repeat' (first|(simp only [cJ,cY,aHr,aGL,aCJ,cO,hd0,hd1,↓wA,↓wC,wB,cL,cK,b7,b8,b9,reduceIte,reduceCtorEq,aA,cA])|(refine cI hD rfl rfl ?_)|(refine cI hH rfl rfl ?_)|(refine dL ?_)|(with_reducible refine bD ?_ ?_)|(with_reducible refine cQ ?_ ?_; focus ((try simp only [aE,aF,aH]); omega))|(with_reducible refine cP ?_ ?_; focus (simp only [dW]; omega))|((first|apply cG|apply cH|apply cF)<;>intro h<;>try simp only [h]))
   all_goals (simp [aLs,hT2]; done)
def pre (a:Int):List UInt8:=aLs a ++ [32,100,117,101,32]
theorem aSg (t:List UInt8):(107 :: 101 :: 101 :: 112 :: 32 :: 100 :: 117 :: 101 :: 32 :: t:List UInt8)=pre 1 ++ t:=rfl
theorem aTs (t:List UInt8):(116 :: 114 :: 97 :: 110 :: 115 :: 102 :: 101 :: 114 :: 32 :: 100 :: 117 :: 101 :: 32 :: t:List UInt8)=pre 2 ++ t:=rfl
theorem aTa (t:List UInt8):(100 :: 101 :: 115 :: 116 :: 114 :: 111 :: 121 :: 32 :: 100 :: 117 :: 101 :: 32 :: t:List UInt8)=pre 3 ++ t:=rfl
theorem aPw (x:Cs):txt x=pre x.a ++ (Lib.itoa x.d ++ mL x.h):=by simp [txt,pre]
theorem aFm (a:Int):(pre a).length<=13:=by
 have:=aMf a
 simp only [pre,aE,aF,aH]
 omega
theorem aE0 (v:List Int):mL (v.take 0)=[]:=rfl
theorem aFt {v:List Int} {i:Nat} {n:Int} (hr:v[i]?=some n) (h:i=0):mL (v.take (i + 1))=mL (v.take i) ++ (32 :: 104 :: 101 :: 108 :: 100 :: 32 :: Lib.itoa n):=by
 rw [aGx hr,if_pos h,aI]; rfl
theorem aFk {v:List Int} {i:Nat} {n:Int} (hr:v[i]?=some n) (h:¬ i=0):mL (v.take (i + 1))=mL (v.take i) ++ (44 :: Lib.itoa n):=by
 rw [aGx hr,if_neg h,aI]; rfl
theorem aI0 (x:Cs) (h:gJ x=true):Fn prog 167 [x.s] (fun rs=>rs=[.str (txt x)]):=by
 obtain ⟨hA,_,h3,h4,h5⟩:=aBG h
 have hD:=fR x.d h3.1 h3.2
 have hi:=eT x.d h3.2
 rw [aPw]
 obtain ⟨xi,a,d,hs⟩:=x
 simp only at hA h3 h4 h5 hD hi ⊢
 rcases hA with rfl|rfl|rfl
 ·skip
  refine cW aD1 [] ?_
  dsimp only [aD1,cT,c7]
  simp only [Cs.s,Cs.p]
  repeat' (first|(simp only [cJ,cY,xS,aEW,aFh,aAn,↓wA,↓wC,wB,cL,cK,b7,b8,b9,reduceIte,reduceCtorEq,aA,cA])|(refine cI hD rfl rfl ?_)|(refine dL ?_)|(with_reducible refine bD ?_ ?_)|(with_reducible refine cQ ?_ ?_; focus ((try simp only [aE,aF,aH]); omega))|(with_reducible refine cP ?_ ?_; focus (simp only [dW]; omega))|((first|apply cG|apply cH|apply cF)<;>intro h<;>try simp only [h]))
  all_goals simp only [aSg,aTs,aTa]
  all_goals have hpl:=aFm 1
  all_goals refine dR hs.length (fun i:Nat=>⟨[(1,.ptr 0 0 []),(3,.d (.str (pre 1 ++ (Lib.itoa d ++ mL (hs.take i))))),(4,.d (.int .i64 i))],[.box (.st (.cons (.int .i64 xi) (.cons (.int .i64 1) (.cons (.int .i64 d) (.cons (.sl false 1 (dl iD hs)) .nil)))))]⟩) (fun _=>True) (by rw [aE0,aN]; exact (cU _ rfl ⟨⟨rfl,rfl⟩,⟨rfl,rfl⟩,⟨rfl,rfl⟩,trivial⟩)) trivial ?_ ?_
  all_goals first
   |(intro _ hd
     repeat' (first|(simp only [cJ,cY,cO,hd,aP,↓wA,↓wC,wB,cL,cK,b7,b8,b9,reduceIte,reduceCtorEq,aA,cA])|((first|apply cG|apply cH|apply cF)<;>intro h<;>try simp only [h]))
     done)
   | skip
  all_goals
   intro i hlt _ hd h0
   obtain ⟨n,hr⟩:=dQ hlt
   have hn5:=h5 n (aD hr)
   have hN:=fR n hn5.1 hn5.2
   have hnl:=eT n hn5.2
   have hTl:=vO (v:=hs.take i) (fun m hm=>(h5 m (aT hm)).2)
   rw [aJ,aL (by omega)] at hTl
   by_cases hi0:i=0
   ·have hq:decide ((i:Int)=0)=true:=decide_eq_true (by omega)
    have hx:=aFt hr hi0
    repeat' (first|(simp only [cJ,cY,cO,c6,hd,h0,hq,aB,hr,aC,eJ,iD,↓wA,↓wC,wB,cL,cK,b7,b8,b9,reduceIte,reduceCtorEq,aA,cA])|(refine cI hN rfl rfl ?_)|(with_reducible refine cQ ?_ ?_; focus ((try simp only [aE,aF,aH]); omega))|(with_reducible refine cP ?_ ?_; focus (simp only [dW]; omega))|((first|apply cG|apply cH|apply cF)<;>intro h<;>try simp only [h]))
    all_goals (refine ⟨i + 1,?_,by omega,by omega⟩; rw [hx]; (try simp only [aI,aK,aR]); exact (cU _ rfl ⟨⟨rfl,rfl⟩,⟨rfl,rfl⟩,⟨rfl,rfl⟩,trivial⟩))
   ·have hq:decide ((i:Int)=0)=false:=decide_eq_false (by omega)
    have hx:=aFk hr hi0
    repeat' (first|(simp only [cJ,cY,cO,c6,hd,h0,hq,aB,hr,aC,eJ,iD,↓wA,↓wC,wB,cL,cK,b7,b8,b9,reduceIte,reduceCtorEq,aA,cA])|(refine cI hN rfl rfl ?_)|(with_reducible refine cQ ?_ ?_; focus ((try simp only [aE,aF,aH]); omega))|(with_reducible refine cP ?_ ?_; focus (simp only [dW]; omega))|((first|apply cG|apply cH|apply cF)<;>intro h<;>try simp only [h]))
    all_goals (refine ⟨i + 1,?_,by omega,by omega⟩; rw [hx]; (try simp only [aI,aK,aR]); exact (cU _ rfl ⟨⟨rfl,rfl⟩,⟨rfl,rfl⟩,⟨rfl,rfl⟩,trivial⟩))
 ·skip
  refine cW aD1 [] ?_
  dsimp only [aD1,cT,c7]
  simp only [Cs.s,Cs.p]
  repeat' (first|(simp only [cJ,cY,xS,aEW,aFh,aAn,↓wA,↓wC,wB,cL,cK,b7,b8,b9,reduceIte,reduceCtorEq,aA,cA])|(refine cI hD rfl rfl ?_)|(refine dL ?_)|(with_reducible refine bD ?_ ?_)|(with_reducible refine cQ ?_ ?_; focus ((try simp only [aE,aF,aH]); omega))|(with_reducible refine cP ?_ ?_; focus (simp only [dW]; omega))|((first|apply cG|apply cH|apply cF)<;>intro h<;>try simp only [h]))
  all_goals simp only [aSg,aTs,aTa]
  all_goals have hpl:=aFm 2
  all_goals refine dR hs.length (fun i:Nat=>⟨[(1,.ptr 0 0 []),(3,.d (.str (pre 2 ++ (Lib.itoa d ++ mL (hs.take i))))),(4,.d (.int .i64 i))],[.box (.st (.cons (.int .i64 xi) (.cons (.int .i64 2) (.cons (.int .i64 d) (.cons (.sl false 1 (dl iD hs)) .nil)))))]⟩) (fun _=>True) (by rw [aE0,aN]; exact (cU _ rfl ⟨⟨rfl,rfl⟩,⟨rfl,rfl⟩,⟨rfl,rfl⟩,trivial⟩)) trivial ?_ ?_
  all_goals first
   |(intro _ hd
     repeat' (first|(simp only [cJ,cY,cO,hd,aP,↓wA,↓wC,wB,cL,cK,b7,b8,b9,reduceIte,reduceCtorEq,aA,cA])|((first|apply cG|apply cH|apply cF)<;>intro h<;>try simp only [h]))
     done)
   | skip
  all_goals
   intro i hlt _ hd h0
   obtain ⟨n,hr⟩:=dQ hlt
   have hn5:=h5 n (aD hr)
   have hN:=fR n hn5.1 hn5.2
   have hnl:=eT n hn5.2
   have hTl:=vO (v:=hs.take i) (fun m hm=>(h5 m (aT hm)).2)
   rw [aJ,aL (by omega)] at hTl
   by_cases hi0:i=0
   ·have hq:decide ((i:Int)=0)=true:=decide_eq_true (by omega)
    have hx:=aFt hr hi0
    repeat' (first|(simp only [cJ,cY,cO,c6,hd,h0,hq,aB,hr,aC,eJ,iD,↓wA,↓wC,wB,cL,cK,b7,b8,b9,reduceIte,reduceCtorEq,aA,cA])|(refine cI hN rfl rfl ?_)|(with_reducible refine cQ ?_ ?_; focus ((try simp only [aE,aF,aH]); omega))|(with_reducible refine cP ?_ ?_; focus (simp only [dW]; omega))|((first|apply cG|apply cH|apply cF)<;>intro h<;>try simp only [h]))
    all_goals (refine ⟨i + 1,?_,by omega,by omega⟩; rw [hx]; (try simp only [aI,aK,aR]); exact (cU _ rfl ⟨⟨rfl,rfl⟩,⟨rfl,rfl⟩,⟨rfl,rfl⟩,trivial⟩))
   ·have hq:decide ((i:Int)=0)=false:=decide_eq_false (by omega)
    have hx:=aFk hr hi0
    repeat' (first|(simp only [cJ,cY,cO,c6,hd,h0,hq,aB,hr,aC,eJ,iD,↓wA,↓wC,wB,cL,cK,b7,b8,b9,reduceIte,reduceCtorEq,aA,cA])|(refine cI hN rfl rfl ?_)|(with_reducible refine cQ ?_ ?_; focus ((try simp only [aE,aF,aH]); omega))|(with_reducible refine cP ?_ ?_; focus (simp only [dW]; omega))|((first|apply cG|apply cH|apply cF)<;>intro h<;>try simp only [h]))
    all_goals (refine ⟨i + 1,?_,by omega,by omega⟩; rw [hx]; (try simp only [aI,aK,aR]); exact (cU _ rfl ⟨⟨rfl,rfl⟩,⟨rfl,rfl⟩,⟨rfl,rfl⟩,trivial⟩))
 ·skip
  refine cW aD1 [] ?_
  dsimp only [aD1,cT,c7]
  simp only [Cs.s,Cs.p]
  repeat' (first|(simp only [cJ,cY,xS,aEW,aFh,aAn,↓wA,↓wC,wB,cL,cK,b7,b8,b9,reduceIte,reduceCtorEq,aA,cA])|(refine cI hD rfl rfl ?_)|(refine dL ?_)|(with_reducible refine bD ?_ ?_)|(with_reducible refine cQ ?_ ?_; focus ((try simp only [aE,aF,aH]); omega))|(with_reducible refine cP ?_ ?_; focus (simp only [dW]; omega))|((first|apply cG|apply cH|apply cF)<;>intro h<;>try simp only [h]))
  all_goals simp only [aSg,aTs,aTa]
  all_goals have hpl:=aFm 3
  all_goals refine dR hs.length (fun i:Nat=>⟨[(1,.ptr 0 0 []),(3,.d (.str (pre 3 ++ (Lib.itoa d ++ mL (hs.take i))))),(4,.d (.int .i64 i))],[.box (.st (.cons (.int .i64 xi) (.cons (.int .i64 3) (.cons (.int .i64 d) (.cons (.sl false 1 (dl iD hs)) .nil)))))]⟩) (fun _=>True) (by rw [aE0,aN]; exact (cU _ rfl ⟨⟨rfl,rfl⟩,⟨rfl,rfl⟩,⟨rfl,rfl⟩,trivial⟩)) trivial ?_ ?_
  all_goals first
   |(intro _ hd
     repeat' (first|(simp only [cJ,cY,cO,hd,aP,↓wA,↓wC,wB,cL,cK,b7,b8,b9,reduceIte,reduceCtorEq,aA,cA])|((first|apply cG|apply cH|apply cF)<;>intro h<;>try simp only [h]))
     done)
   | skip
  all_goals
   intro i hlt _ hd h0
   obtain ⟨n,hr⟩:=dQ hlt
   have hn5:=h5 n (aD hr)
   have hN:=fR n hn5.1 hn5.2
   have hnl:=eT n hn5.2
   have hTl:=vO (v:=hs.take i) (fun m hm=>(h5 m (aT hm)).2)
   rw [aJ,aL (by omega)] at hTl
   by_cases hi0:i=0
   ·have hq:decide ((i:Int)=0)=true:=decide_eq_true (by omega)
    have hx:=aFt hr hi0
    repeat' (first|(simp only [cJ,cY,cO,c6,hd,h0,hq,aB,hr,aC,eJ,iD,↓wA,↓wC,wB,cL,cK,b7,b8,b9,reduceIte,reduceCtorEq,aA,cA])|(refine cI hN rfl rfl ?_)|(with_reducible refine cQ ?_ ?_; focus ((try simp only [aE,aF,aH]); omega))|(with_reducible refine cP ?_ ?_; focus (simp only [dW]; omega))|((first|apply cG|apply cH|apply cF)<;>intro h<;>try simp only [h]))
    all_goals (refine ⟨i + 1,?_,by omega,by omega⟩; rw [hx]; (try simp only [aI,aK,aR]); exact (cU _ rfl ⟨⟨rfl,rfl⟩,⟨rfl,rfl⟩,⟨rfl,rfl⟩,trivial⟩))
   ·have hq:decide ((i:Int)=0)=false:=decide_eq_false (by omega)
    have hx:=aFk hr hi0
    repeat' (first|(simp only [cJ,cY,cO,c6,hd,h0,hq,aB,hr,aC,eJ,iD,↓wA,↓wC,wB,cL,cK,b7,b8,b9,reduceIte,reduceCtorEq,aA,cA])|(refine cI hN rfl rfl ?_)|(with_reducible refine cQ ?_ ?_; focus ((try simp only [aE,aF,aH]); omega))|(with_reducible refine cP ?_ ?_; focus (simp only [dW]; omega))|((first|apply cG|apply cH|apply cF)<;>intro h<;>try simp only [h]))
    all_goals (refine ⟨i + 1,?_,by omega,by omega⟩; rw [hx]; (try simp only [aI,aK,aR]); exact (cU _ rfl ⟨⟨rfl,rfl⟩,⟨rfl,rfl⟩,⟨rfl,rfl⟩,trivial⟩))
end Go.Pe.Tryz
namespace Go.Pe.Tryz
open Go.Proofs.Tryz Go.Sort
theorem pZ {x:Con}:fL [1,2] x.s=7:=rfl
theorem pX {x:Con}:gU [1,2] x.s=some (.int .i64 x.c):=rfl
theorem gW {x:Off}:fL [0] x.s=0:=rfl
theorem jE {x:Off}:fL [1] x.s=1:=rfl
theorem lY {x:Off}:fL [2] x.s=2:=rfl
theorem l9 {x:Off}:fL [3] x.s=3:=rfl
theorem jG {x:Off}:fL [4] x.s=4:=rfl
theorem gX {x:Off}:gU [0] x.s=some (.int .i64 x.day):=rfl
theorem jM {x:Off}:gU [1] x.s=some (.sl false 4 (dl Cs.s x.cs)):=rfl
theorem l8 {x:Off}:gU [2] x.s=some (.int .i64 x.kept):=rfl
theorem lZ {x:Off}:gU [3] x.s=some (.int .i64 x.moved):=rfl
theorem jH {x:Off}:gU [4] x.s=some (.sl false 1 (dl D.str x.led)):=rfl
end Go.Pe.Tryz
namespace Go.Pe.Tryz
open Go.Proofs.Tryz
theorem aDw (p:Cs->Bool) (g:Nat) (c:D) (xs:List Cs) (hc:c.caps=true) (he:gE prog.P g=true) (hlen:xs.length<=1048576) (hp:∀ x∈xs,Fn prog g (Cs.s x :: c.list) (fun rs=>rs=[.bool (p x)])) :
  Fn prog 185 [.sl false 4 (dl Cs.s xs),.clo g c] (fun rs=>rs=[.int .i64 (kS p xs)]):=by
 refine cW aR2 [] ?_
 dsimp only [aR2,cT,c7]
 simp only [cO,↓wA,↓wC,wB,cL,cK,b7,b8,b9,reduceIte,reduceCtorEq,aA,cA]
 refine dR xs.length (fun i:Nat=>⟨[(0,.d (.sl false 4 (dl Cs.s xs))),(1,.d (.clo g c)),(7,.d (.int .i64 xs.length)),(8,.d (.int .i64 i))],[]⟩) (fun i=>∀ j r,j < i->xs[j]?=some r->p r=false) (cU _ rfl ⟨⟨rfl,rfl⟩,⟨rfl,rfl⟩,⟨rfl,rfl⟩,⟨rfl,rfl⟩,trivial⟩) (fun j r hj=>by omega) ?_ ?_
 ·intro i hlt hinv hd h0
  obtain ⟨r,hr⟩:=dQ hlt
  have hcl:=hp r (aD hr)
  simp only [hd,h0,c6,aB,hr,aC,cJ,↓iI,↓wA,↓wC,wB,cL,cK,b7,b8,b9,reduceIte,reduceCtorEq,aA,cA]
  refine vH (ds:=[Cs.s r]) hcl he hc (by simp [dB,dI,kP,aWD]) rfl ?_
  cases hpr:p r with
  | true =>
   simp only [↓wA,↓wC,wB,cL,cK,b7,b8,b9,reduceIte,reduceCtorEq,aA,cA]
   rw [rT hr hpr hinv]
  | false =>
   simp only [↓wA,↓wC,wB,cL,cK,b7,b8,b9,reduceIte,reduceCtorEq,aA,cA]
   refine cP (by simp only [dW]; omega) ?_
   refine fH (cU _ rfl ⟨⟨rfl,rfl⟩,⟨rfl,rfl⟩,⟨rfl,rfl⟩,⟨rfl,rfl⟩,trivial⟩) hlt fun j s hj hs=>?_
   by_cases e:j=i
   ·subst e; rw [hr] at hs; injection hs with hs; rw [<- hs]; exact hpr
   ·exact hinv j s (by omega) hs
 ·intro hinv hd
  simp only [hd,↓wA,↓wC,wB,cL,cK,b7,b8,b9,reduceIte,reduceCtorEq,aA,cA]
  rw [qA fun j r hj=>hinv j r (cV hj) hj]
def fV (xs:List Cs) (id:Int):Int:=kS (fun x:Cs=>decide (x.i=id)) xs
theorem mQ (xs:List Cs) (id:Int):(decide (fV xs id < 0)=true/\decide (0<=fV xs id)=false)\/∃ (i:Nat) (x:Cs),fV xs id=(i:Int)/\xs[i]?=some x/\x.i=id:=by
 by_cases h:0<=fV xs id
 ·obtain ⟨i,x,h1,h2,h3⟩:=aF7 h
  exact .inr ⟨i,x,h1,h2,by simpa using h3⟩
 ·exact .inl ⟨decide_eq_true (by omega),decide_eq_false h⟩
theorem aIG (x:Cs) (id:Int):Fn prog 186 [x.s,.ptr (.int .i64 id)] (fun rs=>rs=[.bool (decide (x.i=id))]):=by
 refine cW aR5 [] ?_
 dsimp only [aR5,cT,c7]
 simp only [Cs.s,Cs.p]
 repeat' (first|(simp only [cY,cJ,↓wA,↓wC,wB,cL,cK,b7,b8,b9,reduceIte,reduceCtorEq,aA,cA])|((first|apply cG|apply cH|apply cF)<;>intro h<;>try simp only [h]))
theorem z8 (o:Off) (id:Int) (ho:o.ok0):Fn prog 145 [o.s,.int .i64 id] (fun rs=>rs=[.int .i64 (fV o.cs id)]):=by
 have h:=aDw (fun x=>decide (x.i=id)) 186 (.cons (.ptr (.int .i64 id)) .nil) o.cs rfl aVD ho.1.1 (fun x _=>aIG x id)
 refine cW aRZ [[1,0]] ?_
 dsimp only [aRZ,cT,c7]
 repeat' (first|(simp only [aWv,aWw,cJ,↓wA,↓wC,wB,cL,cK,b7,b8,b9,reduceIte,reduceCtorEq,aA,cA])|((first|apply cG|apply cH|apply cF)<;>intro h<;>try simp only [h]))
 refine c8 (gI 1 rfl) ?_
 repeat' (first|(simp only [aWv,aWw,↓dF,cJ,cX,jE,jM,↓wA,↓wC,wB,cL,cK,b7,b8,b9,reduceIte,reduceCtorEq,aA,cA])|(refine cI (h) rfl rfl ?_)|(refine cM (h) rfl rfl ?_)|((first|apply cG|apply cH|apply cF)<;>intro h<;>try simp only [h]))
 all_goals rfl
theorem kO (o:Off) (id:Int) (ho:o.ok0):Fn prog 166 [o.s,.int .i64 id] (fun rs=>rs=[.int .i64 (fV o.cs id)]):=by
 have hlen:=ho.1.1
 refine cW aR6 [] ?_
 dsimp only [aR6,cT,c7]
 repeat' (first|(simp only [aWv,aWw,cJ,↓wA,↓wC,wB,cL,cK,b7,b8,b9,reduceIte,reduceCtorEq,aA,cA])|((first|apply cG|apply cH|apply cF)<;>intro h<;>try simp only [h]))
 refine dR o.cs.length (fun i:Nat=>⟨[(1,.d (.int .i64 id)),(2,.ptr 0 0 []),(5,.d (.int .i64 i))],[.box o.s]⟩) (fun i=>∀ j r,j < i->o.cs[j]?=some r->decide (r.i=id)=false) (cU _ rfl ⟨⟨rfl,rfl⟩,⟨rfl,rfl⟩,⟨rfl,rfl⟩,trivial⟩) (fun j r hj=>by omega) ?_ ?_
 ·intro i hlt hinv hd h0
  obtain ⟨r,hr⟩:=dQ hlt
  cases h:decide (r.i=id) with
  | true =>
   repeat' (first|(simp only [cO,c6,hd,h0,h,aB,hr,aC,cJ,cX,jE,jM,pR,↓wA,↓wC,wB,cL,cK,b7,b8,b9,reduceIte,reduceCtorEq,aA,cA])|(refine cP (by simp only [dW]; omega) ?_)|((first|apply cG|apply cH|apply cF)<;>intro h<;>try simp only [h]))
   all_goals rw [fV,rT hr h hinv]
  | false =>
   repeat' (first|(simp only [cO,c6,hd,h0,h,aB,hr,aC,cJ,cX,jE,jM,pR,↓wA,↓wC,wB,cL,cK,b7,b8,b9,reduceIte,reduceCtorEq,aA,cA])|(refine cP (by simp only [dW]; omega) ?_)|((first|apply cG|apply cH|apply cF)<;>intro h<;>try simp only [h]))
   all_goals
    refine fH (cU _ rfl ⟨⟨rfl,rfl⟩,⟨rfl,rfl⟩,⟨rfl,rfl⟩,trivial⟩) hlt fun j s hj hs=>?_
    by_cases e:j=i
    ·subst e; rw [hr] at hs; injection hs with hs; rw [<- hs]; exact h
    ·exact hinv j s (by omega) hs
 ·intro hinv hd
  repeat' (first|(simp only [cO,hd,cX,cJ,jE,jM,↓wA,↓wC,wB,cL,cK,b7,b8,b9,reduceIte,reduceCtorEq,aA,cA])|((first|apply cG|apply cH|apply cF)<;>intro h<;>try simp only [h]))
  all_goals rw [fV,qA fun j r hj=>hinv j r (cV hj) hj]
theorem xN {o:Off} {i:Nat} {x:Cs} (h:dP o=true) (hr:o.cs[i]?=some x):gJ x=true:=by
 simp only [dP,aQ] at h
 have:=aS.1 h.2 i (bH.2 (cV hr))
 rw [aCI hr,aQ] at this
 exact this.1
def aCN (o:Off) (id:Int):List D:=if dP o=true then (if 0<=fV o.cs id then [.str (txt (o.cs[(fV o.cs id).toNat]?.getD ⟨0,0,0,[]⟩)),.bool true] else [.str [],.bool false]) else [.str [],.bool false]
theorem l7 (o:Off) (id:Int) (ho:o.ok0):Fn prog 113 [o.s,.int .i64 id] (fun rs=>rs=aCN o id):=by
 have hV:=jV o ho
 have hF:=z8 o id ho
 unfold aCN
 cases hv:dP o with
 | false =>
  rw [hv] at hV
  refine cW aEc [] ?_
  dsimp only [aEc,cT,c7]
  repeat' (first|(simp only [aWv,aWw,↓dF,cJ,↓wA,↓wC,wB,cL,cK,b7,b8,b9,reduceIte,reduceCtorEq,aA,cA])|(refine cI hF (by simp [dB,dI,aWu]) rfl ?_)|(refine cI hV (by simp [dB,dI,aWu]) rfl ?_)|((first|apply cG|apply cH|apply cF)<;>intro h<;>try simp only [h]))
  all_goals simp
 | true =>
  rw [hv] at hV
  rcases mQ o.cs id with ⟨hn,hn'⟩|⟨i,x,hi,hr,_⟩
  ·have hn2:=of_decide_eq_false hn'
   refine cW aEc [] ?_
   dsimp only [aEc,cT,c7]
   repeat' (first|(simp only [hn,aWv,aWw,↓dF,cJ,↓wA,↓wC,wB,cL,cK,b7,b8,b9,reduceIte,reduceCtorEq,aA,cA])|(refine cI hF (by simp [dB,dI,aWu]) rfl ?_)|(refine cI hV (by simp [dB,dI,aWu]) rfl ?_)|((first|apply cG|apply cH|apply cF)<;>intro h<;>try simp only [h]))
   all_goals simp [hn2]
  ·rw [hi] at hF ⊢
   have h0:(0:Int)<=(i:Int):=by omega
   have hn:decide ((i:Int) < 0)=false:=decide_eq_false (by omega)
   have hC:=aGF x (xN hv hr)
   refine cW aEc [] ?_
   dsimp only [aEc,cT,c7]
   repeat' (first|(simp only [hn,h0,c6,aB,hr,aC,aWv,aWw,↓dF,↓iI,cX,jE,jM,cJ,↓wA,↓wC,wB,cL,cK,b7,b8,b9,reduceIte,reduceCtorEq,aA,cA])|(refine cI hF (by simp [dB,dI,aWu]) rfl ?_)|(refine cI hV (by simp [dB,dI,aWu]) rfl ?_)|(refine cI hC (by simp [dB,dI,aWD]) rfl ?_)|((first|apply cG|apply cH|apply cF)<;>intro h<;>try simp only [h]))
   all_goals simp [hr]
theorem aBb (o:Off) (id:Int) (ho:o.ok0):Fn prog 127 [o.s,.int .i64 id] (fun rs=>rs=aCN o id):=by
 have hV:=f8 o ho
 have hF:=kO o id ho
 unfold aCN
 cases hv:dP o with
 | false =>
  rw [hv] at hV
  refine cW aEz [] ?_
  dsimp only [aEz,cT,c7]
  repeat' (first|(simp only [aWv,aWw,↓dF,cJ,↓wA,↓wC,wB,cL,cK,b7,b8,b9,reduceIte,reduceCtorEq,aA,cA])|(refine cI hF (by simp [dB,dI,aWu]) rfl ?_)|(refine cI hV (by simp [dB,dI,aWu]) rfl ?_)|((first|apply cG|apply cH|apply cF)<;>intro h<;>try simp only [h]))
  all_goals simp
 | true =>
  rw [hv] at hV
  rcases mQ o.cs id with ⟨hn,hn'⟩|⟨i,x,hi,hr,_⟩
  ·have hn2:=of_decide_eq_false hn'
   refine cW aEz [] ?_
   dsimp only [aEz,cT,c7]
   repeat' (first|(simp only [hn,aWv,aWw,↓dF,cJ,↓wA,↓wC,wB,cL,cK,b7,b8,b9,reduceIte,reduceCtorEq,aA,cA])|(refine cI hF (by simp [dB,dI,aWu]) rfl ?_)|(refine cI hV (by simp [dB,dI,aWu]) rfl ?_)|((first|apply cG|apply cH|apply cF)<;>intro h<;>try simp only [h]))
   all_goals simp [hn2]
  ·rw [hi] at hF ⊢
   have h0:(0:Int)<=(i:Int):=by omega
   have hn:decide ((i:Int) < 0)=false:=decide_eq_false (by omega)
   have hC:=aI0 x (xN hv hr)
   refine cW aEz [] ?_
   dsimp only [aEz,cT,c7]
   repeat' (first|(simp only [hn,h0,c6,aB,hr,aC,aWv,aWw,↓dF,↓iI,cX,jE,jM,cJ,↓wA,↓wC,wB,cL,cK,b7,b8,b9,reduceIte,reduceCtorEq,aA,cA])|(refine cI hF (by simp [dB,dI,aWu]) rfl ?_)|(refine cI hV (by simp [dB,dI,aWu]) rfl ?_)|(refine cI hC (by simp [dB,dI,aWD]) rfl ?_)|((first|apply cG|apply cH|apply cF)<;>intro h<;>try simp only [h]))
   all_goals simp [hr]
def ups:Nat->Int->List Int
 | 0,_=>[]
 | n + 1,k=>k :: ups n (k + 1)
theorem vC:∀ (n:Nat) (k:Int),(ups n k).length=n
 | 0,_=>rfl
 | n + 1,k=>by simp [ups,vC n]
theorem aFe:∀ (n:Nat) (k:Int) (i:Nat),i < n->(ups n k)[i]?=some (k + i)
 | 0,_,i,h=>by omega
 | n + 1,k,0,_=>by simp [ups]
 | n + 1,k,i + 1,h=>by
  simp only [ups,List.getElem?_cons_succ]
  rw [aFe n (k + 1) i (by omega)]
  congr 1; omega
theorem aC4:∀ (n:Nat) (k:Int),ups (n + 1) k=ups n k ++ [k + n]
 | 0,k=>by simp [ups]
 | n + 1,k=>by
  have h:=aC4 n (k + 1)
  rw [ups,h,ups,aK]
  congr 3; omega
theorem aOe {v:List Int} {i:Nat} {k:Int} (h:i < v.length):(ups i k ++ v.drop i).set i (k + i)=ups (i + 1) k ++ v.drop (i + 1):=by
 rw [aX _ _ (by rw [vC]; omega),vC,aO,aV h,a6,aC4,aI]
 rfl
theorem aCr {n:Int}:gU [] (iD n)=some (iD n):=rfl
theorem aBL {n:Int}:fL [] (iD n)=0:=rfl
theorem yK {n:Int}:(iD n).size=1:=rfl
theorem aMO (v:List Int) (k:Int) (h0:0<=k) (h1:k<=1000000000000000) (hlen:v.length<=1048576):y7 prog 118 false (.sl true 1 (dl iD v)) [.int .i64 k] (fun x' rs=>x'=.sl true 1 (dl iD (ups v.length k))/\rs=[.int .i64 (k + v.length)]):=by
 refine jY aQ0 [] ?_
 dsimp only [aQ0,cT,c7]
 try simp only [↓wA,↓wC,wB,cL,cK,b7,b8,b9,reduceIte,reduceCtorEq,aA,cA]
 refine d5 (fun i:Nat=>⟨[(0,.own 0),(1,.d (.int .i64 (k + i))),(5,.d (.int .i64 i))],[.val (.sl true 1 (dl iD (ups i k ++ v.drop i)))]⟩)
  (fun i=>i<=v.length) (fun i=>v.length - i) 0
  (cU [] rfl ⟨⟨rfl,rfl⟩,⟨congrArg (fun n=>SV.d (.int .i64 n)) (by simp),rfl⟩,⟨rfl,rfl⟩,trivial⟩) (bL _) ?_
 intro i hi
 have hl:(ups i k ++ v.drop i).length=v.length:=by rw [aE,vC,bA]; omega
 by_cases hlt:i < v.length
 ·obtain ⟨w,hw⟩:=dQ (show i < (ups i k ++ v.drop i).length by omega)
  have hd:decide ((i:Int) < (v.length:Int))=true:=decide_eq_true (by omega)
  have h0:(0:Int)<=(i:Int):=by omega
  have hs:(dl iD (ups i k ++ v.drop i)).setN i (.int .i64 (k + i))=dl iD (ups (i + 1) k ++ v.drop (i + 1)):=(gV (f:=iD) _ i (k + i)).trans (by rw [aOe hlt])
  repeat' (first|(simp only [cO,hl,hd,c6,aB,hw,aC,h0,cJ,yK,hs,↓wA,↓wC,wB,cL,cK,b7,b8,b9,reduceIte,reduceCtorEq,aA,cA])|(refine cP (by simp only [dW]; omega) ?_)|((first|apply cG|apply cH|apply cF)<;>intro h<;>try simp only [h]))
  refine ⟨i + 1,cU [] rfl ⟨⟨rfl,rfl⟩,⟨?_,rfl⟩,⟨rfl,rfl⟩,trivial⟩,by omega,by omega⟩
  exact congrArg (fun n=>SV.d (.int .i64 n)) (by omega)
 ·have hd:decide ((i:Int) < (v.length:Int))=false:=decide_eq_false (by omega)
  have e:i=v.length:=by omega
  try simp only [cO,hl,hd,↓wA,↓wC,wB,cL,cK,b7,b8,b9,reduceIte,reduceCtorEq,aA,cA]
  rw [e,bB,aN]
  exact ⟨rfl,rfl⟩
end Go.Pe.Tryz
namespace Go.Pe.Tryz
open Go.Proofs.Tryz Go.Sort
def sN (n:Nat) (k:Int):List (List UInt8):=(ups n k).map mtx
theorem uH (n:Nat) (k:Int):(sN n k).length=n:=by rw [sN,aM,vC]
theorem aNC {n:Nat} {k:Int} {i:Nat} (h:i < n):(sN n k)[i]?=some (mtx (k + i)):=by rw [sN,List.getElem?_map,aFe n k i h]; rfl
theorem aKc (n:Nat) (k:Int):sN (n + 1) k=sN n k ++ [mtx (k + n)]:=by simp only [sN,aC4,bQ,a7,bX]
theorem aM8 {L:List (List UInt8)} {i:Nat} {k:Int} (h:i < L.length):(sN i k ++ L.drop i).set i (mtx (k + i))=sN (i + 1) k ++ L.drop (i + 1):=by
 rw [aX _ _ (by rw [uH]; omega),uH,aO,aV h,a6,aKc,aI]
 rfl
theorem aFQ (L:List (List UInt8)) (k:Int) (h0:0<=k) (h1:k<=10000000000000) (hlen:L.length<=1048576):y7 prog 20 false (.sl true 1 (dl D.str L)) [.int .i64 k] (fun x' rs=>x'=.sl true 1 (dl D.str (sN L.length k))/\rs=[.int .i64 (k + L.length)]):=by
 refine jY aTU [] ?_
 dsimp only [aTU,cT,c7]
 try simp only [↓wA,↓wC,wB,cL,cK,b7,b8,b9,reduceIte,reduceCtorEq,aA,cA]
 refine d5 (fun i:Nat=>⟨[(0,.own 0),(1,.d (.int .i64 (k + i))),(5,.d (.int .i64 i))],[.val (.sl true 1 (dl D.str (sN i k ++ L.drop i)))]⟩)
  (fun i=>i<=L.length) (fun i=>L.length - i) 0
  (cU [] rfl ⟨⟨rfl,rfl⟩,⟨congrArg (fun n=>SV.d (.int .i64 n)) (by simp),rfl⟩,⟨rfl,rfl⟩,trivial⟩) (bL _) ?_
 intro i hi
 have hl:(sN i k ++ L.drop i).length=L.length:=by rw [aE,uH,bA]; omega
 by_cases hlt:i < L.length
 ·obtain ⟨w,hw⟩:=dQ (show i < (sN i k ++ L.drop i).length by omega)
  have hd:decide ((i:Int) < (L.length:Int))=true:=decide_eq_true (by omega)
  have h0:(0:Int)<=(i:Int):=by omega
  have hm:=aAL (k + i) (by omega) (by omega)
  have hs:(dl D.str (sN i k ++ L.drop i)).setN i (.str (mtx (k + i)))=dl D.str (sN (i + 1) k ++ L.drop (i + 1)):=(gV (f:=D.str) _ i (mtx (k + i))).trans (by rw [aM8 hlt])
  repeat' (first|(simp only [cO,hl,hd,c6,aB,hw,aC,h0,cJ,hs,↓wA,↓wC,wB,cL,cK,b7,b8,b9,reduceIte,reduceCtorEq,aA,cA])|(refine cI (hm) rfl rfl ?_)|(refine cM (hm) rfl rfl ?_)|(refine cP (by simp only [dW]; omega) ?_)|((first|apply cG|apply cH|apply cF)<;>intro h<;>try simp only [h]))
  refine ⟨i + 1,cU [] rfl ⟨⟨rfl,rfl⟩,⟨?_,rfl⟩,⟨rfl,rfl⟩,trivial⟩,by omega,by omega⟩
  exact congrArg (fun n=>SV.d (.int .i64 n)) (by omega)
 ·have hd:decide ((i:Int) < (L.length:Int))=false:=decide_eq_false (by omega)
  have e:i=L.length:=by omega
  try simp only [cO,hl,hd,↓wA,↓wC,wB,cL,cK,b7,b8,b9,reduceIte,reduceCtorEq,aA,cA]
  rw [e,bB,aN]
  exact ⟨rfl,rfl⟩
theorem aHy (n:Nat) (k:Int) (h0:0<=k) (h1:k<=10000000000000) (hlen:n<=1048576):Fn prog 21 [.sl false 1 (dl D.str (sN n k)),.int .i64 k] (fun rs=>rs=[.int .i64 (k + n)]):=by
 refine cW aT4 [] ?_
 dsimp only [aT4,cT,c7]
 try simp only [↓wA,↓wC,wB,cL,cK,b7,b8,b9,reduceIte,reduceCtorEq,aA,cA]
 refine d5 (fun i:Nat=>⟨[(0,.d (.sl false 1 (dl D.str (sN n k)))),(1,.d (.int .i64 (k + i))),(5,.d (.int .i64 i))],[]⟩)
  (fun i=>i<=n) (fun i=>n - i) 0
  (cU [] rfl ⟨⟨rfl,rfl⟩,⟨congrArg (fun n=>SV.d (.int .i64 n)) (by simp),rfl⟩,⟨rfl,rfl⟩,trivial⟩) (bL _) ?_
 intro i hi
 by_cases hlt:i < n
 ·have hw:=aNC (k:=k) hlt
  have hd:decide ((i:Int) < (n:Int))=true:=decide_eq_true (by omega)
  have h0:(0:Int)<=(i:Int):=by omega
  have hm:=aAL (k + i) (by omega) (by omega)
  have ht:decide (mtx (k + i)=mtx (k + i))=true:=decide_eq_true rfl
  repeat' (first|(simp only [cO,uH,hd,c6,aB,hw,aC,h0,cJ,ht,↓wA,↓wC,wB,cL,cK,b7,b8,b9,reduceIte,reduceCtorEq,aA,cA])|(refine cI (hm) rfl rfl ?_)|(refine cM (hm) rfl rfl ?_)|(refine cP (by simp only [dW]; omega) ?_)|((first|apply cG|apply cH|apply cF)<;>intro h<;>try simp only [h]))
  refine ⟨i + 1,cU [] rfl ⟨⟨rfl,rfl⟩,⟨?_,rfl⟩,⟨rfl,rfl⟩,trivial⟩,by omega,by omega⟩
  exact congrArg (fun n=>SV.d (.int .i64 n)) (by omega)
 ·have hd:decide ((i:Int) < (n:Int))=false:=decide_eq_false (by omega)
  have e:i=n:=by omega
  try simp only [cO,uH,hd,↓wA,↓wC,wB,cL,cK,b7,b8,b9,reduceIte,reduceCtorEq,aA,cA]
  all_goals rw [e]
end Go.Pe.Tryz
namespace Go.Pe.Tryz
open Go.Proofs.Tryz
def mC (k:Int) (x:Cs):Cs:=⟨k,k + 1,k + 2,ups x.h.length (k + 3)⟩
def sC (x:Cs):Int:=3 + x.h.length
def lG:Int->List Cs->List Cs
 | _,[]=>[]
 | k,x :: xs=>mC k x :: lG (k + sC x) xs
def j4:List Cs->Int
 | []=>0
 | x :: xs=>sC x + j4 xs
theorem j9:∀ (k:Int) (xs:List Cs),(lG k xs).length=xs.length
 | _,[]=>rfl
 | k,x :: xs=>by simp [lG,j9]
theorem aBH:∀ (k:Int) (xs:List Cs) (x:Cs),lG k (xs ++ [x])=lG k xs ++ [mC (k + j4 xs) x]
 | k,[],x=>by simp [lG,j4]
 | k,y :: ys,x=>by
  simp only [aK,lG,aBH,j4]
  rw [bV]
theorem aAt:∀ (xs:List Cs) (x:Cs),j4 (xs ++ [x])=j4 xs + sC x
 | [],x=>by simp [j4]
 | y :: ys,x=>by simp only [aK,j4,aAt]; omega
theorem pD:∀ (xs:List Cs),(∀ x∈xs,x.ok0)->0<=j4 xs/\j4 xs<=2000000 * xs.length
 | [],_=>by simp [j4]
 | x :: xs,h=>by
  have h1:=pD xs fun y hy=>h y (aY _ hy)
  have h2:=h x (aZ ..)
  unfold Cs.ok0 at h2
  simp only [j4,sC,aF]
  omega
theorem aBs {x:Cs} {dh:D} {k:Int}:kG [0] (x.p dh) (.int .i64 k)=Cs.p { x with i:=k } dh:=rfl
theorem aBm {x:Cs} {dh:D} {k:Int}:kG [1] (x.p dh) (.int .i64 k)=Cs.p { x with a:=k } dh:=rfl
theorem jI {x:Cs} {dh:D} {k:Int}:kG [2] (x.p dh) (.int .i64 k)=Cs.p { x with d:=k } dh:=rfl
theorem eR {x:Cs} {dh u:D}:kG [3] (x.p dh) u=x.p u:=rfl
theorem nW {x:Cs} {dh:D}:fL [0] (x.p dh)=0:=rfl
theorem aBj {x:Cs} {dh:D}:fL [1] (x.p dh)=1:=rfl
theorem jL {x:Cs} {dh:D}:fL [2] (x.p dh)=2:=rfl
theorem fM {x:Cs} {dh:D}:fL [3] (x.p dh)=3:=rfl
theorem nU {x:Cs} {dh:D}:gU [0] (x.p dh)=some (.int .i64 x.i):=rfl
theorem aBg {x:Cs} {dh:D}:gU [1] (x.p dh)=some (.int .i64 x.a):=rfl
theorem jF {x:Cs} {dh:D}:gU [2] (x.p dh)=some (.int .i64 x.d):=rfl
theorem eK {x:Cs} {dh:D}:gU [3] (x.p dh)=some dh:=rfl
theorem eL:∀ (xs:D) (i:Nat) (y z:D),(xs.setN i y).setN i z=xs.setN i z:=by
 intro xs
 induction xs with
 | cons a xs ih1 ih2=>intro i y z; cases i with
  | zero=>rfl
  | succ i=>simp only [D.setN]; rw [ih2]
 | _=>intro i y z; cases i<;>rfl
theorem aAx {xs:List Cs} {i:Nat} {x:Cs} (hr:xs[i]?=some x):xs.drop i=x :: xs.drop (i + 1):=by
 have hi:=cV hr
 rw [aV hi]
 rw [List.getElem?_eq_getElem hi] at hr
 injection hr with hr
 rw [hr]
theorem aEQ (xs:List Cs) (k:Int) (h0:0<=k) (h1:k<=1000) (hlen:xs.length<=1048576) (hx:∀ x∈xs,x.ok0):y7 prog 77 false (.sl true 4 (dl Cs.o xs)) [.int .i64 k] (fun x' rs=>x'=.sl true 4 (dl Cs.o (lG k xs))/\rs=[.int .i64 (k + j4 xs)]):=by
 refine jY aUg [[1,0,1,0,0,1,0,0,1,1,1,1,1,1],[1,0,1,0,0,1,1]] ?_
 dsimp only [aUg,cT,c7]
 simp only [cO,↓wA,↓wC,wB,cL,cK,b7,b8,b9,reduceIte,reduceCtorEq,aA,cA]
 refine dR xs.length (fun i:Nat=>⟨[(0,.own 0),(1,.d (.int .i64 (k + j4 (xs.take i)))),(5,.d (.int .i64 i))],[.val (.sl true 4 (dl Cs.o (lG k (xs.take i) ++ xs.drop i)))]⟩) (fun _=>True) (cU [] rfl ⟨⟨rfl,rfl⟩,⟨congrArg (fun n=>SV.d (.int .i64 n)) (by simp [j4]),rfl⟩,⟨rfl,rfl⟩,trivial⟩) trivial ?_ ?_
 ·intro i hlt _ hd hi0
  obtain ⟨x,hr⟩:=dQ hlt
  have hL:(lG k (xs.take i) ++ xs.drop i)[i]?=some x:=by
   rw [List.getElem?_append_right (by rw [j9]; simp; omega),j9,aJ,aL (by omega),aO,List.getElem?_drop]; exact hr
  have hll:(lG k (xs.take i) ++ xs.drop i).length=xs.length:=by rw [aE,j9,aJ,bA]; omega
  have hb:=pD (xs.take i) (fun y hy=>hx y (aT hy))
  have hbl:(xs.take i).length<=1048576:=by simp; omega
  generalize hK:k + j4 (xs.take i)=K
  have hK0:0<=K:=by omega
  have hK1:K<=10000000000000:=by omega
  have hgs:∀ {f:Cs->D} (y:D),((dl f (lG k (xs.take i) ++ xs.drop i)).setN i y).nth i=some y:=fun y=>by rw [oD,if_pos rfl,c6,hL]; rfl
  repeat' (first|(simp only [cO,hll,hd,hi0,c6,aB,hL,aC,cJ,hgs,lV,aBs,aBm,jI,eR,nW,aBj,jL,fM,nU,aBg,jF,eK,eL,Cs.o,↓wA,↓wC,wB,cL,cK,b7,b8,b9,reduceIte,reduceCtorEq,aA,cA])|(refine cP (by simp only [dW]; omega) ?_)|((first|apply cG|apply cH|apply cF)<;>intro h<;>try simp only [h]))
  have hxo:=hx x (aD hr)
  refine eI _ (e8 0 (some i) [3] (es:=1) (xs:=dl iD x.h) rfl (by simp only [kE,hgs,bM,eK])) fun v=>?_
  have m1:=aMO x.h (K + 1 + 1 + 1) (by omega) (by omega) hxo
  repeat' (first|(simp only [cO,hll,hd,hi0,c6,aB,hL,aC,cJ,hgs,lV,aBs,aBm,jI,eR,nW,aBj,jL,fM,nU,aBg,jF,eK,eL,dY,bC,↓wA,↓wC,wB,cL,cK,b7,b8,b9,reduceIte,reduceCtorEq,aA,cA])|(refine cP (by simp only [dW]; omega) ?_)|((first|apply cG|apply cH|apply cF)<;>intro h<;>try simp only [h]))
  refine mN m1 rfl rfl rfl ?_
  repeat' (first|(simp only [cO,hll,hd,hi0,c6,aB,hL,aC,cJ,hgs,lV,aBs,aBm,jI,eR,nW,aBj,jL,fM,nU,aBg,jF,eK,eL,dY,bC,↓wA,↓wC,wB,cL,cK,b7,b8,b9,reduceIte,reduceCtorEq,aA,cA])|(refine cP (by simp only [dW]; omega) ?_)|((first|apply cG|apply cH|apply cF)<;>intro h<;>try simp only [h]))
  refine c8 (gB 0 2 1 (some i) [3] rfl (by simp only [kE,hgs,bM,eK]) rfl rfl (by decide) rfl) ?_
  repeat' (first|(simp only [cO,hll,hd,hi0,c6,aB,hL,aC,cJ,hgs,lV,aBs,aBm,jI,eR,nW,aBj,jL,fM,nU,aBg,jF,eK,eL,dY,bC,↓wA,↓wC,wB,cL,cK,b7,b8,b9,reduceIte,reduceCtorEq,aA,cA])|(refine cP (by simp only [dW]; omega) ?_)|((first|apply cG|apply cH|apply cF)<;>intro h<;>try simp only [h]))
  have e2:K + 1 + 1=K + 2:=by omega
  have e3:K + 1 + 1 + 1=K + 3:=by omega
  have ex:Cs.p { i:=K,a:=K + 1,d:=K + 1 + 1,h:=x.h } (.sl true 1 (dl iD (ups x.h.length (K + 1 + 1 + 1))))=Cs.o (mC K x):=by
   rw [e3,e2]; rfl
  have el:(lG k (xs.take i) ++ xs.drop i).set i (mC K x)=lG k (xs.take (i + 1)) ++ xs.drop (i + 1):=by
   rw [aX _ _ (by rw [j9]; simp; omega),j9,aJ,aL (by omega),aO,aAx hr,a6,e7 hr,aBH,hK,aI]
   rfl
  have es:K + 1 + 1 + 1 + x.h.length=k + j4 (xs.take (i + 1)):=by
   rw [e7 hr,aAt,<-bV,hK,sC]; omega
  rw [ex,gV,el,es]
  exact ⟨i + 1,(cU _ rfl ⟨⟨rfl,rfl⟩,⟨rfl,rfl⟩,⟨rfl,rfl⟩,trivial⟩),by omega,by omega⟩
 ·intro _ hd
  have e1:xs.take xs.length=xs:=aP
  have e2:(lG k (xs.take xs.length) ++ xs.drop xs.length)=lG k xs:=by rw [e1,bB,aN]
  rw [e2,e1]
  simp only [cO,j9,hd,↓wA,↓wC,wB,cL,cK,b7,b8,b9,reduceIte,reduceCtorEq,aA,cA]
def mO (k:Int) (o:Off):Off:=⟨o.day,lG k o.cs,o.kept,o.moved,sN o.led.length (k + j4 o.cs)⟩
theorem aDo (o:Off) (k:Int) (h0:0<=k) (h1:k<=1000) (ho:o.ok0):y7 prog 42 false o.o [.int .i64 k] (fun x' rs=>x'=(mO k o).o/\rs=[.int .i64 (k + j4 o.cs + o.led.length)]):=by
 have hb:=pD o.cs ho.1.2
 have hbl:=ho.1.1
 have m1:=aEQ o.cs k h0 h1 ho.1.1 ho.1.2
 have m2:=aFQ o.led (k + j4 o.cs) (by omega) (by omega) ho.2.1
 refine jY aTY [[1,1,1,1],[1,1,1,1],[1,1,1,1],[0],[0],[0]] ?_
 dsimp only [aTY,cT,c7]
 simp only [Off.o,dU]
 refine eI _ (e8 0 none [1] (es:=4) (xs:=dl Cs.o o.cs) rfl rfl) fun v1=>?_
 simp only [dY,↓wA,↓wC,wB,cL,cK,b7,b8,b9,reduceIte,reduceCtorEq,aA,cA]
 refine eI _ (e8 0 none [4] (es:=1) (xs:=dl D.str o.led) rfl rfl) fun v2=>?_
 simp only [dY,↓wA,↓wC,wB,cL,cK,b7,b8,b9,reduceIte,reduceCtorEq,aA,cA]
 refine c8 (aVO 0 0 rfl rfl rfl) ?_
 repeat' (first|(simp only [cJ,↓wA,↓wC,wB,cL,cK,b7,b8,b9,reduceIte,reduceCtorEq,aA,cA])|((first|apply cG|apply cH|apply cF)<;>intro h<;>try simp only [h]))
 refine mN m1 rfl rfl rfl ?_
 repeat' (first|(simp only [cJ,↓wA,↓wC,wB,cL,cK,b7,b8,b9,reduceIte,reduceCtorEq,aA,cA])|((first|apply cG|apply cH|apply cF)<;>intro h<;>try simp only [h]))
 refine mN m2 rfl rfl rfl ?_
 repeat' (first|(simp only [cJ,↓wA,↓wC,wB,cL,cK,b7,b8,b9,reduceIte,reduceCtorEq,aA,cA])|((first|apply cG|apply cH|apply cF)<;>intro h<;>try simp only [h]))
 refine c8 (aTg 0 0 rfl rfl rfl) ?_
 simp only [dY,↓wA,↓wC,wB,cL,cK,b7,b8,b9,reduceIte,reduceCtorEq,aA,cA]
 refine c8 (gB 0 2 1 none [1] rfl rfl rfl rfl (by decide) rfl) ?_
 simp only [dY,↓wA,↓wC,wB,cL,cK,b7,b8,b9,reduceIte,reduceCtorEq,aA,cA]
 refine c8 (gB 0 4 3 none [4] rfl rfl rfl rfl (by decide) rfl) ?_
 simp only [dY,↓wA,↓wC,wB,cL,cK,b7,b8,b9,reduceIte,reduceCtorEq,aA,cA]
 rfl
end Go.Pe.Tryz
