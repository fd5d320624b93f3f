/- Offices among the laws' helpers: sizes, copies, equality; walked; Entries of a ledger: strings.Trim, walked; what an entry is; Valid offices, walked; Is it an office? walked, and the law; Consoles: an office and a log; sizes, copies, equality; are they valid? walked, and the law; Texts of cases (strings.Join, decimals, caseText, l25Text), walked; The text of a console, walked, and the law of FormatConsole; A case of an office by its number, its text, walked; the law of CaseText; Marks on lists of numbers, walked; Marks as text: on lists of texts, walked; Marks on offices, walked -/
import Derived.Test.YtjmobminbckhjaaGreatDoorW1
import Derived.Test.YtjmobminbckhjaaGreatDoorShelf
import Derived.Lib.AsciiSet
import Derived.Test.YtjmobminbckhjaaGreatDoorPeD
import Derived.Test.YtjmobminbckhjaaGreatDoorMc1
import Derived.Test.YtjmobminbckhjaaGreatDoorMc2
import Derived.Test.YtjmobminbckhjaaGreatDoorMc3
import Derived.Test.YtjmobminbckhjaaGreatDoorMc4
import Derived.Test.YtjmobminbckhjaaGreatDoorMc5
import Derived.Test.YtjmobminbckhjaaGreatDoorMc6
import Derived.Test.YtjmobminbckhjaaGreatDoorMc7
import Derived.Test.YtjmobminbckhjaaGreatDoorMc8
set_option maxRecDepth 100000
set_option maxHeartbeats 4000000
set_option linter.all false
open And renaming intro->bD
open Bool renaming and_eq_true->aQ, and_true->aW, and_false->bT, false_and->bU
open Int renaming toNat_natCast->aB, add_assoc->bV
open List renaming mem_of_getElem?->aD, length_append->aE, length_cons->aF, replicate->aG, length_nil->aH, append_assoc->aI, length_take->aJ, cons_append->aK, length_map->aM, append_nil->aN, take_length->aP, nil_append->aR, all_eq_true->aS, mem_of_mem_take->aT, dropWhile_cons->aU, drop_eq_getElem_cons->aV, set_append_right->aX, mem_cons_of_mem->aY, mem_cons_self->aZ, set_cons_zero->a6, map_cons->a7, all_eq_false->a8, length_drop->bA, drop_length->bB, take_of_length_le->bE, eq_nil_or_concat->bF, concat_eq_append->bG, mem_range->bH, replicate_zero->bJ, mem_singleton->bK, mem_append->bP, map_append->bQ, nodup_nil->bR, map_map->bW, map_nil->bX, range->b6
open Nat renaming reduceBEq->aA, min_eq_left->aL, sub_self->aO, zero_le->bL, add_mul->bY, one_mul->bZ, reduceEqDiff->b7, reduceAdd->b8, reduceSub->b9, reduceLT->cA
open Option renaming map_some->aC, getD_some->bC, bind_some->bM
namespace Go.Pe.Tryz
open Go.Proofs.Tryz
structure Cs where
 i:Int
 a:Int
 d:Int
 h:List Int
def Cs.p (x:Cs) (dh:D):D:=.st (.cons (.int .i64 x.i) (.cons (.int .i64 x.a) (.cons (.int .i64 x.d) (.cons dh .nil))))
def Cs.s (x:Cs):D:=x.p (.sl false 1 (dl iD x.h))
def Cs.o (x:Cs):D:=x.p (.sl true 1 (dl iD x.h))
def Cs.ok0 (x:Cs):Prop:=x.h.length<=1048576
structure Off where
 day:Int
 cs:List Cs
 kept:Int
 moved:Int
 led:List (List UInt8)
def dU (o:Off) (dc dd:D):D:=.st (.cons (.int .i64 o.day) (.cons dc (.cons (.int .i64 o.kept) (.cons (.int .i64 o.moved) (.cons dd .nil)))))
def Off.s (o:Off):D:=dU o (.sl false 4 (dl Cs.s o.cs)) (.sl false 1 (dl D.str o.led))
def Off.o (o:Off):D:=dU o (.sl true 4 (dl Cs.o o.cs)) (.sl true 1 (dl D.str o.led))
def aNP (L:List (List UInt8)):Prop:=L.length<=1048576/\∀ s∈L,s.length<=1048576
def o5 (xs:List Cs):Prop:=xs.length<=1048576/\∀ x∈xs,x.ok0
def Off.ok0 (o:Off):Prop:=o5 o.cs/\aNP o.led
theorem cR (L:List (List UInt8)):(dl D.str L).noOwn=true:=rQ (fun _=>rfl) L
theorem fA (L:List (List UInt8)):(dl D.str L).unown=dl D.str L:=uB (fun _=>rfl) L
theorem aGK (L:List (List UInt8)):(dl D.str L).allOwn=true:=mJ (fun _=>rfl) L
theorem aWF (x:Cs):x.s.noOwn=true:=by simp [Cs.s,Cs.p,D.noOwn,cY]
theorem aWE (x:Cs):x.s.unown=x.s:=by simp [Cs.s,Cs.p,D.unown,dM]
theorem aWV (x:Cs):x.o.unown=x.s:=by simp [Cs.o,Cs.s,Cs.p,D.unown,dM]
theorem aWZ (x:Cs):x.o.allOwn=true:=by simp [Cs.o,Cs.p,D.allOwn,mJ vB]
theorem aWW (x:Cs):x.o.noOwn=false:=by simp [Cs.o,Cs.p,D.noOwn]
theorem aWD (x:Cs):x.s.isV=true:=rfl
theorem aWC (x:Cs):x.s.size=4:=rfl
theorem aW0 (x:Cs):x.o.isV=true:=rfl
theorem aWY (x:Cs):x.o.size=4:=rfl
theorem cX (xs:List Cs):(dl Cs.s xs).noOwn=true:=rQ aWF xs
theorem fS (xs:List Cs):(dl Cs.s xs).unown=dl Cs.s xs:=uB aWE xs
theorem rP:∀ xs:List Cs,(dl Cs.o xs).unown=dl Cs.s xs
 | []=>rfl
 | x :: xs=>by
  have:=rP xs
  simp only [dl,a7,jA,D.unown,aWV] at this ⊢
  rw [this]
theorem aPN (xs:List Cs):(dl Cs.o xs).allOwn=true:=mJ aWZ xs
theorem aWu (o:Off):o.s.noOwn=true:=by simp [Off.s,dU,D.noOwn,cX,cR]
theorem aWv (o:Off):o.s.unown=o.s:=by simp [Off.s,dU,D.unown,fS,fA]
theorem aWH (o:Off):o.o.unown=o.s:=by simp [Off.s,Off.o,dU,D.unown,rP,fA]
theorem aWQ (o:Off):o.o.allOwn=true:=by simp [Off.o,dU,D.allOwn,aPN,aGK]
theorem iH {o:List Ob} {K:SV->Prop} {x:Cs}:eT o (some 4) x.s K=K (.d x.s):=by simp [Cs.s,Cs.p,eT,D.size,D.noOwn,cY]
theorem dF {o:List Ob} {K:SV->Prop} {x:Off}:eT o (some 5) x.s K=K (.d x.s):=by simp [Off.s,dU,eT,D.size,D.noOwn,cX,cR]
theorem e7 {α:Type} {xs:List α} {i:Nat} {r:α} (hr:xs[i]?=some r):xs.take (i + 1)=xs.take i ++ [r]:=by
 have hi:=cV hr
 rw [List.take_succ_eq_append_getElem hi]
 rw [List.getElem?_eq_getElem hi] at hr
 injection hr with hr
 rw [hr]
theorem aJn {P:PG} {f:FuncId} {ds:List D} {R S:List D->Prop} (h:Fn P f ds R) (hs:∀ rs,R rs->S rs):Fn P f ds S:=by
 intro M vs w h1 h2 h3
 refine (h M vs w h1 h2 h3).mono ?_
 rintro e w' ⟨rs,us,fp,e1,e2,e3⟩
 exact ⟨rs,us,fp,e1,hs rs e2,e3⟩
theorem aSI (v:List Int) (n:Int) (h0:0<=n) (h1:n<=1048576) (hm:v.length<=maxLen):Fn prog 122 [.sl false 1 (dl iD v),.int .i64 n] (fun rs=>∃ m:Int,rs=[.int .i64 m]/\-1<=m/\m<=n/\(0<=m->v.length<=1048576)) :=
 aJn (aJ2 v n h0 h1 hm) fun rs hr=>by
  subst hr
  refine ⟨_,rfl,?_,?_,?_⟩<;>split<;>omega
theorem aKU (x:Cs) (n:Int) (h0:0<=n) (h1:n<=1048576) (hm:x.h.length<=maxLen):Fn prog 83 [x.s,.int .i64 n] (fun rs=>∃ m:Int,rs=[.int .i64 m]/\-1<=m/\m<=n/\(0<=m->x.ok0)):=by
 refine cW aUK [] ?_
 dsimp only [aUK,cT,c7]
 simp only [Cs.s,Cs.p]
 repeat' (first|(simp only [cY,cJ,↓wA,↓wC,wB,cL,cK,b7,b8,b9,reduceIte,reduceCtorEq,aA,cA,dE,fJ])|((first|apply cG|apply cH|apply cF)<;>intro h<;>try simp only [h]))
 refine lN (aSI x.h n h0 h1 hm) rfl fun rs h=>?_
 obtain ⟨m,rfl,e1,e2,e3⟩:=h
 refine ⟨.inl rfl,?_⟩
 cases hd:decide (m < 0) with
 | true =>
  repeat' (first|(simp only [hd,↓wA,↓wC,wB,cL,cK,b7,b8,b9,reduceIte,reduceCtorEq,aA,cA,dE,fJ])|((first|apply cG|apply cH|apply cF)<;>intro h<;>try simp only [h]))
  exact ⟨-1,rfl,by omega,by omega,by omega⟩
 | false =>
  have:=of_decide_eq_false hd
  repeat' (first|(simp only [hd,↓wA,↓wC,wB,cL,cK,b7,b8,b9,reduceIte,reduceCtorEq,aA,cA,dE,fJ])|((first|apply cG|apply cH|apply cF)<;>intro h<;>try simp only [h]))
  exact ⟨m,rfl,e1,e2,fun h=>e3 h⟩
theorem aIT (xs:List Cs) (n:Int) (h0:0<=n) (h1:n<=1048576) (hlen:xs.length<=maxLen) (hx:∀ x∈xs,x.h.length<=maxLen):Fn prog 50 [.sl false 4 (dl Cs.s xs),.int .i64 n] (fun rs=>∃ m:Int,rs=[.int .i64 m]/\-1<=m/\m<=n/\(0<=m->o5 xs)):=by
 have hm':maxLen=9223372036854775807:=by rfl
 refine cW aT3 [] ?_
 dsimp only [aT3,cT,c7]
 simp only [cO,↓wA,↓wC,wB,cL,cK,b7,b8,b9,reduceIte,reduceCtorEq,aA,cA,dE,fJ]
 refine cP (by simp only [dX]; omega) ?_
 cases hd:decide (n - (xs.length:Int) < 0) with
 | true =>
  repeat' (first|(simp only [hd,↓wA,↓wC,wB,cL,cK,b7,b8,b9,reduceIte,reduceCtorEq,aA,cA,dE,fJ])|((first|apply cG|apply cH|apply cF)<;>intro h<;>try simp only [h]))
  exact ⟨-1,rfl,by omega,by omega,by omega⟩
 | false =>
  have hd':=of_decide_eq_false hd
  repeat' (first|(simp only [hd,↓wA,↓wC,wB,cL,cK,b7,b8,b9,reduceIte,reduceCtorEq,aA,cA,dE,fJ])|((first|apply cG|apply cH|apply cF)<;>intro h<;>try simp only [h]))
  refine dZ (fun x:Nat×Int=>⟨[(0,.d (.sl false 4 (dl Cs.s xs))),(1,.d (.int .i64 x.2)),(5,.d (.int .i64 x.1))],[]⟩)
   (fun x=>x.1<=xs.length/\0<=x.2/\x.2<=n - xs.length/\∀ y∈xs.take x.1,y.ok0) (fun x=>xs.length - x.1) (0,n - xs.length) (cU _ rfl ⟨⟨rfl,rfl⟩,⟨rfl,rfl⟩,⟨rfl,rfl⟩,trivial⟩) ⟨by simp,by simp only; omega,by simp only; omega,by simp⟩ ?_
  rintro ⟨i,m⟩ ⟨i1,i2,i3,i4⟩
  simp only at i1 i2 i3 i4 ⊢
  by_cases hlt:i < xs.length
  ·obtain ⟨r,hr⟩:=dP hlt
   have hd2:decide ((i:Int) < (xs.length:Int))=true:=decide_eq_true (by omega)
   have hi0:(0:Int)<=(i:Int):=by omega
   repeat' (first|(simp only [cO,c6,hd2,hi0,aB,hr,aC,↓iH,cJ,↓wA,↓wC,wB,cL,cK,b7,b8,b9,reduceIte,reduceCtorEq,aA,cA,dE,fJ])|((first|apply cG|apply cH|apply cF)<;>intro h<;>try simp only [h]))
   refine lN (aKU r m i2 (by omega) (hx r (aD hr))) (by simp [dB,dI,aWE]) fun rs h=>?_
   obtain ⟨q,rfl,e1,e2,e3⟩:=h
   refine ⟨.inl rfl,?_⟩
   cases hq:decide (q < 0) with
   | true =>
    repeat' (first|(simp only [hq,↓wA,↓wC,wB,cL,cK,b7,b8,b9,reduceIte,reduceCtorEq,aA,cA,dE,fJ])|((first|apply cG|apply cH|apply cF)<;>intro h<;>try simp only [h]))
    exact ⟨-1,rfl,by omega,by omega,by omega⟩
   | false =>
    have hq':=of_decide_eq_false hq
    repeat' (first|(simp only [hq,↓wA,↓wC,wB,cL,cK,b7,b8,b9,reduceIte,reduceCtorEq,aA,cA,dE,fJ])|(with_reducible refine cP ?_ ?_; focus (simp only [dX]; omega))|((first|apply cG|apply cH|apply cF)<;>intro h<;>try simp only [h]))
    refine ⟨(i + 1,q),(cU _ rfl ⟨⟨rfl,rfl⟩,⟨rfl,rfl⟩,⟨rfl,rfl⟩,trivial⟩),⟨by simp only; omega,by simp only; omega,by simp only; omega,fun y hy=>?_⟩,by simp only; omega⟩
    rw [e7 hr] at hy
    rcases bP.1 hy with hy|hy
    ·exact i4 y hy
    ·rw [bK.1 hy]; exact e3 (by omega)
  ·have hd2:decide ((i:Int) < (xs.length:Int))=false:=decide_eq_false (by omega)
   have e:i=xs.length:=by omega
   repeat' (first|(simp only [cO,hd2,↓wA,↓wC,wB,cL,cK,b7,b8,b9,reduceIte,reduceCtorEq,aA,cA,dE,fJ])|((first|apply cG|apply cH|apply cF)<;>intro h<;>try simp only [h]))
   refine ⟨m,rfl,by omega,by omega,fun _=>⟨by omega,fun y hy=>i4 y (by rw [e,aP]; exact hy)⟩⟩
theorem aFe (L:List (List UInt8)) (n:Int) (h0:0<=n) (h1:n<=1048576) (hlen:L.length<=maxLen) (hx:∀ s∈L,s.length<=maxLen):Fn prog 51 [.sl false 1 (dl D.str L),.int .i64 n] (fun rs=>∃ m:Int,rs=[.int .i64 m]/\-1<=m/\m<=n/\(0<=m->aNP L)):=by
 have hm':maxLen=9223372036854775807:=by rfl
 refine cW aT7 [] ?_
 dsimp only [aT7,cT,c7]
 simp only [cO,↓wA,↓wC,wB,cL,cK,b7,b8,b9,reduceIte,reduceCtorEq,aA,cA,dE,fJ]
 refine cP (by simp only [dX]; omega) ?_
 cases hd:decide (n - (L.length:Int) < 0) with
 | true =>
  repeat' (first|(simp only [hd,↓wA,↓wC,wB,cL,cK,b7,b8,b9,reduceIte,reduceCtorEq,aA,cA,dE,fJ])|((first|apply cG|apply cH|apply cF)<;>intro h<;>try simp only [h]))
  exact ⟨-1,rfl,by omega,by omega,by omega⟩
 | false =>
  have hd':=of_decide_eq_false hd
  repeat' (first|(simp only [hd,↓wA,↓wC,wB,cL,cK,b7,b8,b9,reduceIte,reduceCtorEq,aA,cA,dE,fJ])|((first|apply cG|apply cH|apply cF)<;>intro h<;>try simp only [h]))
  refine dZ (fun x:Nat×Int=>⟨[(0,.d (.sl false 1 (dl D.str L))),(1,.d (.int .i64 x.2)),(5,.d (.int .i64 x.1))],[]⟩)
   (fun x=>x.1<=L.length/\0<=x.2/\x.2<=n - L.length/\∀ y∈L.take x.1,y.length<=1048576) (fun x=>L.length - x.1) (0,n - L.length) (cU _ rfl ⟨⟨rfl,rfl⟩,⟨rfl,rfl⟩,⟨rfl,rfl⟩,trivial⟩) ⟨by simp,by simp only; omega,by simp only; omega,by simp⟩ ?_
  rintro ⟨i,m⟩ ⟨i1,i2,i3,i4⟩
  simp only at i1 i2 i3 i4 ⊢
  by_cases hlt:i < L.length
  ·obtain ⟨r,hr⟩:=dP hlt
   have hd2:decide ((i:Int) < (L.length:Int))=true:=decide_eq_true (by omega)
   have hi0:(0:Int)<=(i:Int):=by omega
   have hrl:=hx r (aD hr)
   cases hq:decide (m - (r.length:Int) < 0) with
   | true =>
    repeat' (first|(simp only [cO,c6,hd2,hi0,hq,aB,hr,aC,cJ,↓wA,↓wC,wB,cL,cK,b7,b8,b9,reduceIte,reduceCtorEq,aA,cA,dE,fJ])|(with_reducible refine cP ?_ ?_; focus (simp only [dX]; omega))|((first|apply cG|apply cH|apply cF)<;>intro h<;>try simp only [h]))
    all_goals exact ⟨-1,rfl,by omega,by omega,by omega⟩
   | false =>
    have hq':=of_decide_eq_false hq
    repeat' (first|(simp only [cO,c6,hd2,hi0,hq,aB,hr,aC,cJ,↓wA,↓wC,wB,cL,cK,b7,b8,b9,reduceIte,reduceCtorEq,aA,cA,dE,fJ])|(with_reducible refine cP ?_ ?_; focus (simp only [dX]; omega))|((first|apply cG|apply cH|apply cF)<;>intro h<;>try simp only [h]))
    all_goals
     refine ⟨(i + 1,m - r.length),(cU _ rfl ⟨⟨rfl,rfl⟩,⟨rfl,rfl⟩,⟨rfl,rfl⟩,trivial⟩),⟨by simp only; omega,by simp only; omega,by simp only; omega,fun y hy=>?_⟩,by simp only; omega⟩
     rw [e7 hr] at hy
     rcases bP.1 hy with hy|hy
     ·exact i4 y hy
     ·rw [bK.1 hy]; omega
  ·have hd2:decide ((i:Int) < (L.length:Int))=false:=decide_eq_false (by omega)
   have e:i=L.length:=by omega
   repeat' (first|(simp only [cO,hd2,↓wA,↓wC,wB,cL,cK,b7,b8,b9,reduceIte,reduceCtorEq,aA,cA,dE,fJ])|((first|apply cG|apply cH|apply cF)<;>intro h<;>try simp only [h]))
   refine ⟨m,rfl,by omega,by omega,fun _=>⟨by omega,fun y hy=>i4 y (by rw [e,aP]; exact hy)⟩⟩
theorem aFN (o:Off) (n:Int) (h0:0<=n) (h1:n<=1048576) (c1:o.cs.length<=maxLen) (c2:∀ x∈o.cs,x.h.length<=maxLen) (c3:o.led.length<=maxLen) (c4:∀ s∈o.led,s.length<=maxLen):Fn prog 27 [o.s,.int .i64 n] (fun rs=>∃ m:Int,rs=[.int .i64 m]/\-1<=m/\m<=n/\(0<=m->o.ok0)):=by
 refine cW aT1 [] ?_
 dsimp only [aT1,cT,c7]
 simp only [Off.s,dU]
 repeat' (first|(simp only [cX,cR,cJ,↓wA,↓wC,wB,cL,cK,b7,b8,b9,reduceIte,reduceCtorEq,aA,cA,dE,fJ])|((first|apply cG|apply cH|apply cF)<;>intro h<;>try simp only [h]))
 refine lN (aIT o.cs n h0 h1 c1 c2) rfl fun rs h=>?_
 obtain ⟨m,rfl,e1,e2,e3⟩:=h
 refine ⟨.inl rfl,?_⟩
 cases hd:decide (m < 0) with
 | true =>
  repeat' (first|(simp only [hd,↓wA,↓wC,wB,cL,cK,b7,b8,b9,reduceIte,reduceCtorEq,aA,cA,dE,fJ])|((first|apply cG|apply cH|apply cF)<;>intro h<;>try simp only [h]))
  exact ⟨-1,rfl,by omega,by omega,by omega⟩
 | false =>
  have hd':=of_decide_eq_false hd
  repeat' (first|(simp only [hd,cX,cR,cJ,↓wA,↓wC,wB,cL,cK,b7,b8,b9,reduceIte,reduceCtorEq,aA,cA,dE,fJ])|((first|apply cG|apply cH|apply cF)<;>intro h<;>try simp only [h]))
  refine lN (aFe o.led m (by omega) (by omega) c3 c4) rfl fun rs h=>?_
  obtain ⟨q,rfl,f1,f2,f3⟩:=h
  refine ⟨.inl rfl,?_⟩
  cases hq:decide (q < 0) with
  | true =>
   repeat' (first|(simp only [hq,↓wA,↓wC,wB,cL,cK,b7,b8,b9,reduceIte,reduceCtorEq,aA,cA,dE,fJ])|((first|apply cG|apply cH|apply cF)<;>intro h<;>try simp only [h]))
   exact ⟨-1,rfl,by omega,by omega,by omega⟩
  | false =>
   repeat' (first|(simp only [hq,↓wA,↓wC,wB,cL,cK,b7,b8,b9,reduceIte,reduceCtorEq,aA,cA,dE,fJ])|((first|apply cG|apply cH|apply cF)<;>intro h<;>try simp only [h]))
   exact ⟨q,rfl,f1,by omega,fun h=>⟨e3 (by omega),f3 h⟩⟩
theorem uH (L:List (List UInt8)) (hlen:L.length<=1048576):Fn prog 19 [.sl false 1 (dl D.str L),.sl false 1 (dl D.str L)] (fun rs=>rs=[.bool true]):=by
 refine cW aVB [] ?_
 dsimp only [aVB,cT,c7]
 repeat' (first|(simp only [cO,↓wA,↓wC,wB,cL,cK,b7,b8,b9,reduceIte,reduceCtorEq,aA,cA,dE,fJ])|((first|apply cG|apply cH|apply cF)<;>intro h<;>try simp only [h]))
 refine dR L.length (fun i:Nat=>⟨[(0,.d (.sl false 1 (dl D.str L))),(1,.d (.sl false 1 (dl D.str L))),(5,.d (.int .i64 i))],[]⟩) (fun _=>True) (cU _ rfl ⟨⟨rfl,rfl⟩,⟨rfl,rfl⟩,⟨rfl,rfl⟩,trivial⟩) trivial ?_ ?_
 ·intro i hlt _ hd h0
  obtain ⟨r,hr⟩:=dP hlt
  repeat' (first|(simp only [cO,c6,hd,aB,hr,aC,h0,cJ,decide_true,↓wA,↓wC,wB,cL,cK,b7,b8,b9,reduceIte,reduceCtorEq,aA,cA,dE,fJ])|(with_reducible refine cP ?_ ?_; focus (simp only [dX]; omega))|((first|apply cG|apply cH|apply cF)<;>intro h<;>try simp only [h]))
  all_goals exact ⟨i + 1,(cU _ rfl ⟨⟨rfl,rfl⟩,⟨rfl,rfl⟩,⟨rfl,rfl⟩,trivial⟩),by omega,by omega⟩
 ·intro _ hd
  repeat' (first|(simp only [cO,hd,↓wA,↓wC,wB,cL,cK,b7,b8,b9,reduceIte,reduceCtorEq,aA,cA,dE,fJ])|((first|apply cG|apply cH|apply cF)<;>intro h<;>try simp only [h]))
theorem aGm (x:Cs) (hx:x.ok0):Fn prog 117 [x.s,x.s] (fun rs=>rs=[.bool true]):=by
 have h1:=aHn x.h hx
 refine cW aRZ [] ?_
 dsimp only [aRZ,cT,c7]
 simp only [Cs.s,Cs.p]
 repeat' (first|(simp only [cY,cJ,decide_true,↓wA,↓wC,wB,cL,cK,b7,b8,b9,reduceIte,reduceCtorEq,aA,cA,dE,fJ])|(refine cI h1 rfl rfl ?_)|((first|apply cG|apply cH|apply cF)<;>intro h<;>try simp only [h]))
theorem aFh (xs:List Cs) (hx:o5 xs):Fn prog 76 [.sl false 4 (dl Cs.s xs),.sl false 4 (dl Cs.s xs)] (fun rs=>rs=[.bool true]):=by
 have hlen:=hx.1
 refine cW aU3 [] ?_
 dsimp only [aU3,cT,c7]
 repeat' (first|(simp only [cO,↓wA,↓wC,wB,cL,cK,b7,b8,b9,reduceIte,reduceCtorEq,aA,cA,dE,fJ])|((first|apply cG|apply cH|apply cF)<;>intro h<;>try simp only [h]))
 refine dR xs.length (fun i:Nat=>⟨[(0,.d (.sl false 4 (dl Cs.s xs))),(1,.d (.sl false 4 (dl Cs.s xs))),(5,.d (.int .i64 i))],[]⟩) (fun _=>True) (cU _ rfl ⟨⟨rfl,rfl⟩,⟨rfl,rfl⟩,⟨rfl,rfl⟩,trivial⟩) trivial ?_ ?_
 ·intro i hlt _ hd h0
  obtain ⟨r,hr⟩:=dP hlt
  have he:=aGm r (hx.2 r (aD hr))
  repeat' (first|(simp only [cO,c6,hd,aB,hr,aC,↓iH,h0,cJ,↓wA,↓wC,wB,cL,cK,b7,b8,b9,reduceIte,reduceCtorEq,aA,cA,dE,fJ])|(refine cM he (by simp [dB,dI,lE,aWE]) rfl ?_)|(refine cI he (by simp [dB,dI]) rfl ?_)|(with_reducible refine cP ?_ ?_; focus (simp only [dX]; omega))|((first|apply cG|apply cH|apply cF)<;>intro h<;>try simp only [h]))
  all_goals exact ⟨i + 1,(cU _ rfl ⟨⟨rfl,rfl⟩,⟨rfl,rfl⟩,⟨rfl,rfl⟩,trivial⟩),by omega,by omega⟩
 ·intro _ hd
  repeat' (first|(simp only [cO,hd,↓wA,↓wC,wB,cL,cK,b7,b8,b9,reduceIte,reduceCtorEq,aA,cA,dE,fJ])|((first|apply cG|apply cH|apply cF)<;>intro h<;>try simp only [h]))
theorem aDq (o:Off) (ho:o.ok0):Fn prog 40 [o.s,o.s] (fun rs=>rs=[.bool true]):=by
 have h1:=aFh o.cs ho.1
 have h2:=uH o.led ho.2.1
 refine cW aUu [] ?_
 dsimp only [aUu,cT,c7]
 simp only [Off.s,dU]
 repeat' (first|(simp only [cX,cR,cJ,decide_true,↓wA,↓wC,wB,cL,cK,b7,b8,b9,reduceIte,reduceCtorEq,aA,cA,dE,fJ])|(refine cI h1 rfl rfl ?_)|(refine cI h2 rfl rfl ?_)|((first|apply cG|apply cH|apply cF)<;>intro h<;>try simp only [h]))
theorem aDu (L:List (List UInt8)) (hlen:L.length<=1048576):Fn prog 63 [.sl false 1 (dl D.str L)] (fun rs=>rs=[.sl true 1 (dl D.str L)]):=by
 refine cW aVj [] ?_
 dsimp only [aVj,cT,c7]
 simp only [↓wA,↓wC,wB,cL,cK,b7,b8,b9,reduceIte,reduceCtorEq,aA,cA,dE,fJ]
 simp only [cO,↓wA,↓wC,wB,cL,cK,b7,b8,b9,reduceIte,reduceCtorEq,aA,cA,dE,fJ]
 refine cQ (by omega) ?_
 have hz:jA (aG (↑L.length:Int).toNat (D.str []))=dl D.str (L.take 0 ++ aG (L.length - 0) []):=by
  rw [oT]; simp
 rw [hz]
 refine dR L.length (fun i:Nat=>⟨[(0,.d (.sl false 1 (dl D.str L))),(3,.own 0),(4,.d (.int .i64 i))],[.val (.sl true 1 (dl D.str (L.take i ++ aG (L.length - i) [])))]⟩) (fun _=>True) (cU _ rfl ⟨⟨rfl,rfl⟩,⟨rfl,rfl⟩,⟨rfl,rfl⟩,trivial⟩) trivial ?_ ?_
 ·intro i hlt _ hd h0
  obtain ⟨r,hr⟩:=dP hlt
  have hn:(L.take i ++ aG (L.length - i) ([]:List UInt8))[i]?=some []:=by
   rw [List.getElem?_append_right (by simp; omega),aJ,aL (by omega),aO,show L.length - i=(L.length - (i + 1)) + 1 by omega]; rfl
  have hfs:(dl D.str (L.take i ++ aG (L.length - i) ([]:List UInt8))).setN i (D.str r)=dl D.str (L.take (i + 1) ++ aG (L.length - (i + 1)) []):=by
   rw [gV,u4 hr]
  repeat' (first|(simp only [cO,c6,hd,h0,aB,hr,hn,hfs,aC,cJ,↓wA,↓wC,wB,cL,cK,b7,b8,b9,reduceIte,reduceCtorEq,aA,cA,dE,fJ])|(with_reducible refine cP ?_ ?_; focus (simp only [dX]; omega))|((first|apply cG|apply cH|apply cF)<;>intro h<;>try simp only [h]))
  all_goals exact ⟨i + 1,(cU _ rfl ⟨⟨rfl,rfl⟩,⟨rfl,rfl⟩,⟨rfl,rfl⟩,trivial⟩),by omega,by omega⟩
 ·intro _ hd
  repeat' (first|(simp only [cO,hd,↓wA,↓wC,wB,cL,cK,b7,b8,b9,reduceIte,reduceCtorEq,aA,cA,dE,fJ])|((first|apply cG|apply cH|apply cF)<;>intro h<;>try simp only [h]))
  all_goals simp
theorem aHP (x:Cs) (hx:x.ok0):Fn prog 98 [x.s] (fun rs=>rs=[x.o]):=by
 have h1:=aIH x.h hx
 refine cW aUv [[1,1,1,1,1,1,0],[1,1,1,1,1,1,1]] ?_
 dsimp only [aUv,cT,c7]
 simp only [Cs.s,Cs.p]
 repeat' (first|(simp only [cY,cJ,↓wA,↓wC,wB,cL,cK,b7,b8,b9,reduceIte,reduceCtorEq,aA,cA,dE,fJ])|(refine cI h1 rfl rfl ?_)|((first|apply cG|apply cH|apply cF)<;>intro h<;>try simp only [h]))
 refine eI _ (eZ 2 none [3] (es:=1) (xs:=dl iD x.h) rfl rfl) fun v1=>?_
 simp only [dY,cY,cJ,↓wA,↓wC,wB,cL,cK,b7,b8,b9,reduceIte,reduceCtorEq,aA,cA,dE,fJ]
 refine c8 (gA 1 5 4 none [3] rfl rfl rfl rfl (by decide) rfl) ?_
 simp only [dY,cY,cJ,↓wA,↓wC,wB,cL,cK,b7,b8,b9,reduceIte,reduceCtorEq,aA,cA,dE,fJ]
 rfl
def zC:D:=.st (.cons (.int .i64 0) (.cons (.int .i64 0) (.cons (.int .i64 0) (.cons (.sl true 1 .nil) .nil))))
def oz:Option Cs->D
 | some x=>x.o
 | none=>zC
theorem aFJ:∀ xs:List Cs,dl oz (xs.map some)=dl Cs.o xs
 | []=>rfl
 | x :: xs=>by
  have:=aFJ xs
  simp only [dl,a7,jA] at this ⊢
  rw [this]; rfl
theorem aFQ (xs:List Cs) (hx:o5 xs):Fn prog 62 [.sl false 4 (dl Cs.s xs)] (fun rs=>rs=[.sl true 4 (dl Cs.o xs)]):=by
 have hlen:=hx.1
 refine cW aVk [] ?_
 dsimp only [aVk,cT,c7]
 simp only [↓wA,↓wC,wB,cL,cK,b7,b8,b9,reduceIte,reduceCtorEq,aA,cA,dE,fJ]
 simp only [cO,↓wA,↓wC,wB,cL,cK,b7,b8,b9,reduceIte,reduceCtorEq,aA,cA,dE,fJ]
 refine cQ (by omega) ?_
 have hz:jA (aG (↑xs.length:Int).toNat zC)=dl oz ((xs.map some).take 0 ++ aG (xs.length - 0) none):=by
  rw [show zC=oz none from rfl,oT]; simp
 have hz':D.st ((D.int IntKind.i64 0).cons ((D.int IntKind.i64 0).cons ((D.int IntKind.i64 0).cons ((D.sl true 1 .nil).cons D.nil))))=zC:=rfl
 rw [hz',hz]
 refine dR xs.length (fun i:Nat=>⟨[(0,.d (.sl false 4 (dl Cs.s xs))),(3,.own 0),(4,.d (.int .i64 i))],[.val (.sl true 4 (dl oz ((xs.map some).take i ++ aG (xs.length - i) none)))]⟩) (fun _=>True) (cU _ rfl ⟨⟨rfl,rfl⟩,⟨rfl,rfl⟩,⟨rfl,rfl⟩,trivial⟩) trivial ?_ ?_
 ·intro i hlt _ hd h0
  obtain ⟨r,hr⟩:=dP hlt
  have hto:=aHP r (hx.2 r (aD hr))
  have hrs:(xs.map some)[i]?=some (some r):=by rw [List.getElem?_map,hr]; rfl
  have hn:((xs.map some).take i ++ aG (xs.length - i) (none:Option Cs))[i]?=some none:=by
   rw [List.getElem?_append_right (by simp; omega),aJ,aM,aL (by omega),aO,show xs.length - i=(xs.length - (i + 1)) + 1 by omega]; rfl
  repeat' (first|(simp only [cO,c6,hd,h0,aB,hr,hn,aC,cJ,↓iH,aW0,aWY,aWW,aWF,↓wA,↓wC,wB,cL,cK,b7,b8,b9,reduceIte,reduceCtorEq,aA,cA,dE,fJ])|(refine cI hto (by simp [dB,dI,lE,aWE]) rfl ?_)|(refine cP (by simp only [dX]; omega) ?_)|((first|apply cG|apply cH|apply cF)<;>intro h<;>try simp only [h]))
  refine cQ rfl ?_
  refine cP (by simp only [dX]; omega) ?_
  have hfs:(dl oz ((xs.map some).take i ++ aG (xs.length - i) none)).setN i r.o=dl oz ((xs.map some).take (i + 1) ++ aG (xs.length - (i + 1)) none):=by
   have hl:xs.length=(xs.map (some:Cs->Option Cs)).length:=by simp
   rw [show r.o=oz (some r) from rfl,gV]
   conv=>lhs; rw [hl]
   conv=>rhs; rw [hl]
   rw [u4 hrs]
  rw [hfs]
  exact ⟨i + 1,(cU _ rfl ⟨⟨rfl,rfl⟩,⟨rfl,rfl⟩,⟨rfl,rfl⟩,trivial⟩),by omega,by omega⟩
 ·intro _ hd
  simp only [cO,hd,↓wA,↓wC,wB,cL,cK,b7,b8,b9,reduceIte,reduceCtorEq,aA,cA,dE,fJ]
  have h1:(xs.map (some:Cs->Option Cs)).take xs.length=xs.map some:=bE (by simp)
  rw [h1,aO,bJ,aN,aFJ]
theorem aE1 (o:Off) (ho:o.ok0):Fn prog 33 [o.s] (fun rs=>rs=[o.o]):=by
 have h1:=aFQ o.cs ho.1
 have h2:=aDu o.led ho.2.1
 refine cW aVq [[1,1,1,1,1,1,1,0],[1,1,1,1,1,1,1,0],[1,1,1,1,1,1,1,1],[1,1,1,1,1,1,1,1]] ?_
 dsimp only [aVq,cT,c7]
 simp only [Off.s,dU]
 repeat' (first|(simp only [cX,cR,cJ,↓wA,↓wC,wB,cL,cK,b7,b8,b9,reduceIte,reduceCtorEq,aA,cA,dE,fJ])|(refine cI h1 rfl rfl ?_)|(refine cI h2 rfl rfl ?_)|((first|apply cG|apply cH|apply cF)<;>intro h<;>try simp only [h]))
 refine eI _ (eZ 2 none [1] (es:=4) (xs:=dl Cs.o o.cs) rfl rfl) fun v1=>?_
 simp only [dY,cX,cR,cJ,↓wA,↓wC,wB,cL,cK,b7,b8,b9,reduceIte,reduceCtorEq,aA,cA,dE,fJ]
 refine eI _ (eZ 2 none [4] (es:=1) (xs:=dl D.str o.led) rfl rfl) fun v2=>?_
 simp only [dY,cX,cR,cJ,↓wA,↓wC,wB,cL,cK,b7,b8,b9,reduceIte,reduceCtorEq,aA,cA,dE,fJ]
 refine c8 (gA 1 6 5 none [1] rfl rfl rfl rfl (by decide) rfl) ?_
 simp only [dY,cX,cR,cJ,↓wA,↓wC,wB,cL,cK,b7,b8,b9,reduceIte,reduceCtorEq,aA,cA,dE,fJ]
 refine c8 (gA 1 8 7 none [4] rfl rfl rfl rfl (by decide) rfl) ?_
 simp only [dY,cX,cR,cJ,↓wA,↓wC,wB,cL,cK,b7,b8,b9,reduceIte,reduceCtorEq,aA,cA,dE,fJ]
 rfl
def aA1 (l:List UInt8):List Bool:=(b6 256).map fun j=>l.contains (UInt8.ofNat j)
def vS (l:List UInt8):D:=.st (dl D.bool (aA1 l))
theorem aEj {w:World} {M:Nat->Prop}:∀ L:List Bool,(dl D.bool L).rep w M (L.map Value.bool) []
 | []=>⟨rfl,rfl⟩
 | b :: L=>⟨[.bool b],_,[],[],rfl,rfl,⟨rfl,rfl⟩,aEj L⟩
theorem aIq (l:List UInt8):(Lib.setCells l).toList=(aA1 l).map Value.bool:=by
 rw [Lib.setCells_eq]
 simp [aA1,bW,Function.comp_def]
theorem aOo (l:List UInt8) (x:UInt8):(aA1 l)[x.toNat]?=some (l.contains x):=by
 have h:=x.toNat_lt
 simp only [aA1,List.getElem?_map,List.getElem?_range h,aC,UInt8.ofNat_toNat]
theorem aIU (s:List UInt8) (h128:∀ b∈s,b.toNat < 128) (hl:s.length < 4000000000):Fn prog 201 [.str s] (fun rs=>rs=[vS s,.bool true]):=by
 intro M vs w hM hG hv
 obtain ⟨cs,us,f1,f2,rfl,e,⟨rfl,_⟩,rfl,rfl⟩:=hv
 refine (Go.Proofs.Tryz.strings_makeASCIISet (fun w=>by kernel_rfl) ⟨s.toArray⟩ w (by show s.toArray.size < _; simp; omega) ?_).mono ?_
 ·intro j b hb
  exact h128 b (aD (by simpa using hb))
 ·rintro e w' ⟨rfl,rfl⟩
  refine ⟨[vS s,.bool true],[.agg (Lib.setCells s),.bool true],[],rfl,rfl,⟨(Lib.setCells s).toList,[.bool true],[],[],rfl,rfl,?_,⟨[.bool true],[],[],[],rfl,rfl,⟨rfl,rfl⟩,rfl,rfl⟩⟩,bR,(by simp),jM w _⟩
  rw [aIq]
  exact aEj _
theorem aDT:∀ (L:List Bool) (n:Nat),n<=L.length->(dl D.bool L).pre n=n
 | _,0,_=>by cases ‹List Bool›<;>rfl
 | [],n + 1,h=>by simp at h
 | b :: L,n + 1,h=>by
  have:=aDT L n (by simpa using h)
  show 1 + (dl D.bool L).pre n=n + 1
  omega
theorem x9 (l:List UInt8) (x:UInt8):Fn prog 222 [.ptr (vS l),.int .u8 (x.toNat:Int)] (fun rs=>rs=[.bool (l.contains x)]):=by
 have h256:=x.toNat_lt
 have hx:=aOo l x
 have hp:=aDT (aA1 l) x.toNat (by simp [aA1]; omega)
 have hp':(dl D.bool (aA1 l)).pre x.toNat=x.toNat * 1:=by omega
 refine cW aR8 [] ?_
 dsimp only [aR8,cT,c7]
 simp only [vS]
 repeat' (first|(simp only [cJ,aB,hp',c6,hx,aC,↓wA,↓wC,wB,cL,cK,b7,b8,b9,reduceIte,reduceCtorEq,aA,cA])|(with_reducible refine cQ ?_ ?_; focus omega)|((first|apply cG|apply cH|apply cF)<;>intro h<;>try simp only [h]))
def pQ (l s:List UInt8):List UInt8:=s.dropWhile (fun b=>l.contains b)
def pU (l s:List UInt8):List UInt8:=(s.reverse.dropWhile (fun b=>l.contains b)).reverse
theorem aLG (l s:List UInt8) (hl:s.length<=1000000):Fn prog 202 [.str s,.ptr (vS l)] (fun rs=>rs=[.str (pQ l s)]):=by
 refine cW aQR [] ?_
 dsimp only [aQR,cT,c7]
 repeat' (first|(simp only [cJ,↓wA,↓wC,wB,cL,cK,b7,b8,b9,reduceIte,reduceCtorEq,aA,cA])|((first|apply cG|apply cH|apply cF)<;>intro h<;>try simp only [h]))
 refine dZ (fun t:List UInt8=>⟨[(0,.d (.str t)),(1,.d (.ptr (vS l)))],[]⟩) (fun t=>pQ l t=pQ l s/\t.length<=1000000) (fun t=>t.length) s (cU _ rfl ⟨⟨rfl,rfl⟩,⟨rfl,rfl⟩,trivial⟩) ⟨rfl,hl⟩ ?_
 rintro t ⟨h1,h2⟩
 cases t with
 | nil =>
  have hd:decide ((0:Int) < ((0:Nat):Int))=false:=rfl
  repeat' (first|(simp only [cJ,hd,↓wA,↓wC,wB,cL,cK,b7,b8,b9,reduceIte,reduceCtorEq,aA,cA])|((first|apply cG|apply cH|apply cF)<;>intro h<;>try simp only [h]))
  all_goals (rw [<- h1]; rfl)
 | cons b t =>
  have hd:decide ((0:Int) < ((t.length + 1:Nat):Int))=true:=decide_eq_true (by omega)
  have hC:=x9 l b
  have h0:(b :: t)[(0:Int).toNat]?=some b:=rfl
  have hdr:(b :: t).drop (1:Int).toNat=t:=rfl
  simp only [aF] at h2
  cases hb:l.contains b with
  | true =>
   rw [hb] at hC
   have e:pQ l (b :: t)=pQ l t:=by unfold pQ; rw [aU,if_pos hb]
   repeat' (first|(simp only [cJ,hd,h0,hdr,↓wA,↓wC,wB,cL,cK,b7,b8,b9,reduceIte,reduceCtorEq,aA,cA])|(refine cI (hC) rfl rfl ?_)|(refine cM (hC) rfl rfl ?_)|(with_reducible refine cQ ?_ ?_; focus omega)|(with_reducible refine cQ ?_ ?_; focus (simp; done))|((first|apply cG|apply cH|apply cF)<;>intro h<;>try simp only [h]))
   all_goals exact ⟨t,(cU _ rfl ⟨⟨rfl,rfl⟩,⟨rfl,rfl⟩,trivial⟩),⟨by rw [<- e]; exact h1,by omega⟩,by simp⟩
  | false =>
   rw [hb] at hC
   have e:pQ l (b :: t)=b :: t:=by unfold pQ; rw [aU,if_neg (by rw [hb]; decide)]
   repeat' (first|(simp only [cJ,hd,h0,↓wA,↓wC,wB,cL,cK,b7,b8,b9,reduceIte,reduceCtorEq,aA,cA])|(refine cI (hC) rfl rfl ?_)|(refine cM (hC) rfl rfl ?_)|(with_reducible refine cQ ?_ ?_; focus omega)|((first|apply cG|apply cH|apply cF)<;>intro h<;>try simp only [h]))
   all_goals (rw [<- h1,e])
theorem aBI (l s:List UInt8) (b:UInt8):pU l (s ++ [b])=if l.contains b=true then pU l s else s ++ [b]:=by
 unfold pU
 rw [List.reverse_append,List.reverse_singleton,List.singleton_append,aU]
 split
 ·rfl
 ·simp
theorem aMC (l s:List UInt8) (hl:s.length<=1000000):Fn prog 203 [.str s,.ptr (vS l)] (fun rs=>rs=[.str (pU l s)]):=by
 refine cW aQE [] ?_
 dsimp only [aQE,cT,c7]
 repeat' (first|(simp only [cJ,↓wA,↓wC,wB,cL,cK,b7,b8,b9,reduceIte,reduceCtorEq,aA,cA])|((first|apply cG|apply cH|apply cF)<;>intro h<;>try simp only [h]))
 refine dZ (fun t:List UInt8=>⟨[(0,.d (.str t)),(1,.d (.ptr (vS l)))],[]⟩) (fun t=>pU l t=pU l s/\t.length<=1000000) (fun t=>t.length) s (cU _ rfl ⟨⟨rfl,rfl⟩,⟨rfl,rfl⟩,trivial⟩) ⟨rfl,hl⟩ ?_
 rintro t ⟨h1,h2⟩
 rcases bF t with rfl|⟨u,b,rfl⟩
 ·have hd:decide ((0:Int) < ((0:Nat):Int))=false:=rfl
  repeat' (first|(simp only [cJ,hd,↓wA,↓wC,wB,cL,cK,b7,b8,b9,reduceIte,reduceCtorEq,aA,cA])|((first|apply cG|apply cH|apply cF)<;>intro h<;>try simp only [h]))
  all_goals (rw [<- h1]; rfl)
 ·rw [bG] at *
  have hlen:(u ++ [b]).length=u.length + 1:=by simp
  rw [hlen] at h2
  have hd:decide ((0:Int) < ((u.length + 1:Nat):Int))=true:=decide_eq_true (by omega)
  have hC:=x9 l b
  have hn:(((u.length + 1:Nat):Int) - 1).toNat=u.length:=by omega
  have h0:(u ++ [b])[u.length]?=some b:=by simp
  have htk:(u ++ [b]).take u.length=u:=by simp
  have e:=aBI l u b
  cases hb:l.contains b with
  | true =>
   rw [hb] at hC
   rw [if_pos hb] at e
   repeat' (first|(simp only [cJ,hlen,hd,hn,h0,htk,↓wA,↓wC,wB,cL,cK,b7,b8,b9,reduceIte,reduceCtorEq,aA,cA])|(refine cI (hC) rfl rfl ?_)|(refine cM (hC) rfl rfl ?_)|(with_reducible refine cP ?_ ?_; focus (simp only [dX]; omega))|(with_reducible refine cQ ?_ ?_; focus omega)|((first|apply cG|apply cH|apply cF)<;>intro h<;>try simp only [h]))
   all_goals exact ⟨u,(cU _ rfl ⟨⟨rfl,rfl⟩,⟨rfl,rfl⟩,trivial⟩),⟨by rw [<- e]; exact h1,by omega⟩,by simp⟩
  | false =>
   rw [hb] at hC
   rw [if_neg (by rw [hb]; decide)] at e
   repeat' (first|(simp only [cJ,hlen,hd,hn,h0,↓wA,↓wC,wB,cL,cK,b7,b8,b9,reduceIte,reduceCtorEq,aA,cA])|(refine cI (hC) rfl rfl ?_)|(refine cM (hC) rfl rfl ?_)|(with_reducible refine cP ?_ ?_; focus (simp only [dX]; omega))|(with_reducible refine cQ ?_ ?_; focus omega)|((first|apply cG|apply cH|apply cF)<;>intro h<;>try simp only [h]))
   all_goals (rw [<- h1,e])
def iF:List UInt8:=[97,98,99,100,101,102,103,104,105,106,107,108,109,110,111,112,113,114,115,116,117,118,119,120,121,122,48,49,50,51,52,53,54,55,56,57,32,45]
def eB (b:UInt8):Bool:=dC (b.toNat:Int) 97 122 || dC (b.toNat:Int) 48 57 || decide ((b.toNat:Int)=32) || decide ((b.toNat:Int)=45)
theorem aSN (b:UInt8):iF.contains b=eB b:=by
 have h:∀ n,n < 256->iF.contains (UInt8.ofNat n)=eB (UInt8.ofNat n):=by decide
 have:=h b.toNat b.toNat_lt
 rwa [UInt8.ofNat_toNat] at this
theorem rA {p:UInt8->Bool}:∀ (s:List UInt8),s.dropWhile p=[]↔s.all p=true
 | []=>by simp
 | b :: s=>by
  rw [aU]
  cases hb:p b with
  | true=>simp [hb,rA s]
  | false=>simp [hb]
theorem aJQ (l:List UInt8):∀ (n:Nat) (s:List UInt8),s.length=n->(pQ l (pU l s)=[]↔s.all (fun b=>l.contains b)=true):=by
 intro n
 induction n with
 | zero =>
  intro s hs
  obtain rfl:=List.eq_nil_of_length_eq_zero hs
  simp [pQ,pU]
 | succ n IH =>
 intro s hs
 unfold pQ
 rw [rA]
 rcases bF s with rfl|⟨u,b,rfl⟩
 ·simp [pU]
 ·rw [bG,aBI]
  split
  ·rename_i hb
   have ih:=IH u (by simpa using hs)
   unfold pQ at ih
   rw [rA] at ih
   rw [ih,List.all_append]
   simp only [List.all_cons,List.all_nil,hb,aW]
  ·rfl
theorem aMn (l s:List UInt8):pQ l (pU l s)=[]↔s.all (fun b=>l.contains b)=true:=aJQ l _ s rfl
def kJ (s:List UInt8):Bool:=dC s.length 1 40 && s.all eB
def aSP:D:=.st (jA (aG 256 (D.bool false)))
theorem aIz (l:List UInt8):(vS l).noOwn=true:=rQ (f:=D.bool) (fun _=>rfl) (aA1 l)
theorem aII (l:List UInt8):(vS l).unown=vS l:=by
 show D.st (dl D.bool (aA1 l)).unown=_
 rw [uB (fun _=>rfl)]; rfl
theorem aC1:∀ L:List Bool,(dl D.bool L).size=L.length
 | []=>rfl
 | b :: L=>by
  have:=aC1 L
  show 1 + (dl D.bool L).size=L.length + 1
  omega
theorem aJ4 (l:List UInt8):(vS l).size=256:=by
 show (dl D.bool (aA1 l)).size=256
 rw [aC1]; simp [aA1]
theorem aPG (s:List UInt8) (h0:0 < s.length) (hl:s.length<=1000):Fn prog 173 [.str s,.str iF] (fun rs=>rs=[.str (pQ iF (pU iF s))]):=by
 have hM:=aIU iF (by decide) (by decide)
 have hR:=aMC iF s (by omega)
 have hrl:(pU iF s).length<=s.length:=by
  unfold pU
  have:=(List.dropWhile_sublist (p:=fun b=>iF.contains b) (l:=s.reverse)).length_le
  simpa using this
 have hL:=aLG iF (pU iF s) (by omega)
 have d1:decide (s=[])=false:=decide_eq_false (fun h=>by rw [h] at h0; simp at h0)
 have d2:decide (iF=[])=false:=rfl
 have d3:decide ((iF.length:Int)=1)=false:=rfl
 have n1:(vS iF).noOwn=true:=aIz _
 have n2:(vS iF).isV=true:=rfl
 have n3:=aJ4 iF
 have n4:(vS iF).unown=vS iF:=aII _
 have hz:D.st (jA (aG 256 (D.bool false)))=aSP:=rfl
 have n5:aSP.size=256:=rfl
 refine cW aQ4 [[1,1,1,0,1,1,0,0]] ?_
 dsimp only [aQ4,cT,c7]
 rw [hz]
 generalize aSP=Z at n5
 repeat' (first|(simp only [cJ,d1,d2,d3,n1,n2,n3,n5,↓wA,↓wC,wB,cL,cK,b7,b8,b9,reduceIte,reduceCtorEq,aA,cA])|(refine cI (hM) rfl rfl ?_)|(refine cM (hM) rfl rfl ?_)|((first|apply cG|apply cH|apply cF)<;>intro h<;>try simp only [h]))
 refine c8 (gI 0 rfl) ?_
 repeat' (first|(simp only [cJ,n4,↓wA,↓wC,wB,cL,cK,b7,b8,b9,reduceIte,reduceCtorEq,aA,cA])|(refine cI (hR) rfl rfl ?_)|(refine cM (hR) rfl rfl ?_)|(refine cI (hL) rfl rfl ?_)|(refine cM (hL) rfl rfl ?_)|((first|apply cG|apply cH|apply cF)<;>intro h<;>try simp only [h]))
 all_goals trace_state
theorem xK (n:Nat):dC (n:Int) 1 40=true->0 < n/\n<=40:=by
 intro h
 simp only [dC,aQ,decide_eq_true_eq] at h
 omega
theorem aBK (s:List UInt8):Fn prog 134 [.str s] (fun rs=>rs=[.bool (kJ s)]):=by
 unfold kJ
 cases hw:dC (s.length:Int) 1 40 with
 | false =>
  have hW:=e8 (s.length:Int) 1 40
  rw [hw] at hW
  refine cW aI9 [] ?_
  dsimp only [aI9,cT,c7]
  repeat' (first|(simp only [↓wA,↓wC,wB,cL,cK,b7,b8,b9,reduceIte,reduceCtorEq,aA,cA])|(refine cI (hW) rfl rfl ?_)|(refine cM (hW) rfl rfl ?_)|((first|apply cG|apply cH|apply cF)<;>intro h<;>try simp only [h]))
  all_goals rfl
 | true =>
  have hW:=e8 (s.length:Int) 1 40
  rw [hw] at hW
  have hl:=xK _ hw
  have hT:=aPG s hl.1 (by omega)
  have he:decide (pQ iF (pU iF s)=[])=s.all eB:=by
   have h1:=aMn iF s
   have h2:(s.all fun b=>iF.contains b)=s.all eB:=by
    congr 1
    funext b
    exact aSN b
   rw [h2] at h1
   cases hb:s.all eB with
   | true=>exact decide_eq_true (h1.2 hb)
   | false=>exact decide_eq_false (fun h=>by rw [h1.1 h] at hb; cases hb)
  simp only [iF] at hT he
  refine cW aI9 [] ?_
  dsimp only [aI9,cT,c7]
  repeat' (first|(simp only [↓wA,↓wC,wB,cL,cK,b7,b8,b9,reduceIte,reduceCtorEq,aA,cA])|(refine cI (hW) rfl rfl ?_)|(refine cM (hW) rfl rfl ?_)|(refine cI (hT) rfl rfl ?_)|(refine cM (hT) rfl rfl ?_)|((first|apply cG|apply cH|apply cF)<;>intro h<;>try simp only [h]))
  all_goals exact congrArg (fun b=>[D.bool b]) he
theorem aEK (b:UInt8):Fn prog 163 [.int .u8 (b.toNat:Int)] (fun rs=>rs=[.bool (dC (b.toNat:Int) 97 122)]):=by
 refine cW aQ2 [] ?_
 dsimp only [aQ2,cT,c7]
 repeat' (first|(simp only [↓wA,↓wC,wB,cL,cK,b7,b8,b9,reduceIte,reduceCtorEq,aA,cA])|((first|apply cG|apply cH|apply cF)<;>intro h<;>try simp only [h]))
 all_goals first|(simp_all [dC]; done)|(simp_all [dC]; intros; omega)
theorem aG4 (s:List UInt8) (hl:s.length<=1048576):Fn prog 123 [.str s] (fun rs=>rs=[.bool (kJ s)]):=by
 have hW:=iK (s.length:Int) 1 40
 unfold kJ
 refine cW aQ3 [] ?_
 dsimp only [aQ3,cT,c7]
 repeat' (first|(simp only [cJ,↓wA,↓wC,wB,cL,cK,b7,b8,b9,reduceIte,reduceCtorEq,aA,cA])|((first|apply cG|apply cH|apply cF)<;>intro h<;>try simp only [h]))
 refine dR s.length (fun i:Nat=>⟨[(0,.d (.str s)),(3,.d (.int .i64 i))],[]⟩) (fun i=>∀ j b,j < i->s[j]?=some b->eB b=true) (cU _ rfl ⟨⟨rfl,rfl⟩,⟨rfl,rfl⟩,trivial⟩) (fun j r hj=>by omega) ?_ ?_
 ·intro i hlt hinv hd h0
  obtain ⟨b,hb⟩:=dP hlt
  have hL:=aEK b
  have hbad:eB b=false->(dC (s.length:Int) 1 40 && s.all eB)=false:=by
   intro h
   have:s.all eB=false:=a8.2 ⟨b,aD hb,by rw [h]; simp⟩
   rw [this,bT]
  have hgood:eB b=true->∀ j c,j < i + 1->s[j]?=some c->eB c=true:=by
   intro h j c hj hc
   by_cases e:j=i
   ·subst e; rw [hb] at hc; injection hc with hc; rw [<- hc]; exact h
   ·exact hinv j c (by omega) hc
  cases hlt1:dC (b.toNat:Int) 97 122 with
  | true =>
   rw [hlt1] at hL
   have hg:=hgood (by unfold eB; rw [hlt1]; rfl)
   repeat' (first|(simp only [cJ,hd,h0,hb,aB,↓wA,↓wC,wB,cL,cK,b7,b8,b9,reduceIte,reduceCtorEq,aA,cA])|(refine cI (hL) rfl rfl ?_)|(refine cM (hL) rfl rfl ?_)|(with_reducible refine cP ?_ ?_; focus (simp only [dX]; omega))|((first|apply cG|apply cH|apply cF)<;>intro h<;>try simp only [h]))
   all_goals exact fF (cU _ rfl ⟨⟨rfl,rfl⟩,⟨rfl,rfl⟩,trivial⟩) hlt hg
  | false =>
   rw [hlt1] at hL
   repeat' (first|(simp only [cJ,hd,h0,hb,aB,↓wA,↓wC,wB,cL,cK,b7,b8,b9,reduceIte,reduceCtorEq,aA,cA])|(refine cI (hL) rfl rfl ?_)|(refine cM (hL) rfl rfl ?_)|(with_reducible refine cP ?_ ?_; focus (simp only [dX]; omega))|((first|apply cG|apply cH|apply cF)<;>intro h<;>try simp only [h]))
   all_goals first
    |(refine fF (cU _ rfl ⟨⟨rfl,rfl⟩,⟨rfl,rfl⟩,trivial⟩) hlt (hgood ?_); focus (clear hL hW hgood hbad; simp_all [eB,dC]; done))
    |(refine (congrArg (fun x=>[D.bool x]) (hbad ?_)).symm; focus (clear hL hW hgood hbad; simp_all [eB,dC]; done))
    |(refine (congrArg (fun x=>[D.bool x]) (hbad ?_)).symm; focus (clear hL hW hgood hbad hinv; simp_all [eB,dC]; intros; omega))
    |(refine (congrArg (fun x=>[D.bool x]) (hbad ?_)).symm; focus (clear hL hW hgood hbad hinv; simp_all [eB,dC]; omega))
    | trace_state
 ·intro hinv hd
  have:s.all eB=true:=aS.2 fun b hb=>by
   obtain ⟨j,hj⟩:=List.getElem?_of_mem hb
   exact hinv j b (cV hj) hj
  rw [this,aW]
  repeat' (first|(simp only [cJ,hd,↓wA,↓wC,wB,cL,cK,b7,b8,b9,reduceIte,reduceCtorEq,aA,cA])|(refine cI (hW) rfl rfl ?_)|(refine cM (hW) rfl rfl ?_)|((first|apply cG|apply cH|apply cF)<;>intro h<;>try simp only [h]))
def eM (L:List (List UInt8)):Bool:=dC L.length 1 8 && L.all kJ
theorem aFE (s:List UInt8):Fn prog 133 [.str s] (fun rs=>rs=[.bool (!kJ s)]):=by
 refine cW aRE [] ?_
 dsimp only [aRE,cT,c7]
 repeat' (first|(simp only [↓wA,↓wC,wB,cL,cK,b7,b8,b9,reduceIte,reduceCtorEq,aA,cA])|(refine cI (aBK s) rfl rfl ?_)|(refine cM (aBK s) rfl rfl ?_)|((first|apply cG|apply cH|apply cF)<;>intro h<;>try simp only [h]))
theorem aDj (p:(List UInt8)->Bool) (g:Nat) (c:D) (xs:List (List UInt8)) (hc:c.caps=true) (he:gE prog.P g=true) (hlen:xs.length<=1048576) (hp:∀ x∈xs,Fn prog g (D.str x :: c.list) (fun rs=>rs=[.bool (p x)])) :
  Fn prog 172 [.sl false 1 (dl D.str xs),.clo g c] (fun rs=>rs=[.int .i64 (kN p xs)]):=by
 refine cW aRA [] ?_
 dsimp only [aRA,cT,c7]
 simp only [cO,↓wA,↓wC,wB,cL,cK,b7,b8,b9,reduceIte,reduceCtorEq,aA,cA]
 refine dR xs.length (fun i:Nat=>⟨[(0,.d (.sl false 1 (dl D.str xs))),(1,.d (.clo g c)),(7,.d (.int .i64 xs.length)),(8,.d (.int .i64 i))],[]⟩) (fun i=>∀ j r,j < i->xs[j]?=some r->p r=false) (cU _ rfl ⟨⟨rfl,rfl⟩,⟨rfl,rfl⟩,⟨rfl,rfl⟩,⟨rfl,rfl⟩,trivial⟩) (fun j r hj=>by omega) ?_ ?_
 ·intro i hlt hinv hd h0
  obtain ⟨r,hr⟩:=dP hlt
  have hcl:=hp r (aD hr)
  simp only [hd,h0,c6,aB,hr,aC,cJ,↓aMz,↓wA,↓wC,wB,b7,b8,reduceIte,reduceCtorEq]
  refine vK (ds:=[D.str r]) hcl he hc (by simp [dB,dI,lE,D.str]) rfl ?_
  cases hpr:p r with
  | true =>
   simp only [↓wA,↓wC,wB,cL,cK,b7,b8,b9,reduceIte,reduceCtorEq,aA,cA]
   rw [rF hr hpr hinv]
  | false =>
   simp only [↓wA,↓wC,wB,b7,reduceIte,reduceCtorEq]
   refine cP (by simp only [dX]; omega) ?_
   refine fF (cU _ rfl ⟨⟨rfl,rfl⟩,⟨rfl,rfl⟩,⟨rfl,rfl⟩,⟨rfl,rfl⟩,trivial⟩) hlt fun j s hj hs=>?_
   by_cases e:j=i
   ·subst e; rw [hr] at hs; injection hs with hs; rw [<- hs]; exact hpr
   ·exact hinv j s (by omega) hs
 ·intro hinv hd
  simp only [hd,↓wA,↓wC,wB,cL,cK,b7,b8,b9,reduceIte,reduceCtorEq,aA,cA]
  rw [pH fun j r hj=>hinv j r (cV hj) hj]
theorem aAb (p:(List UInt8)->Bool) (g:Nat) (c:D) (xs:List (List UInt8)) (hc:c.caps=true) (he:gE prog.P g=true) (hlen:xs.length<=1048576) (hp:∀ x∈xs,Fn prog g (D.str x :: c.list) (fun rs=>rs=[.bool (p x)])) :
  Fn prog 132 [.sl false 1 (dl D.str xs),.clo g c] (fun rs=>rs=[.bool (xs.any p)]):=by
 refine cW aR0 [] ?_
 dsimp only [aR0,cT,c7]
 simp only [↓wA,↓wC,wB,cL,cK,b7,b8,b9,reduceIte,reduceCtorEq,aA,cA]
 refine cI (aDj p g c xs hc he hlen hp) rfl rfl ?_
 simp only [rO,↓wA,↓wC,wB,b7,b8,reduceIte,reduceCtorEq]
theorem aAM (L:List (List UInt8)) (hl:L.length<=1048576):Fn prog 99 [.sl false 1 (dl D.str L)] (fun rs=>rs=[.bool (eM L)]):=by
 have hW:=e8 (L.length:Int) 1 8
 have hC:=aAb (fun s=>!kJ s) 133 .nil L rfl aU4 hl (fun s _=>aFE s)
 rw [aJb] at hC
 unfold eM
 cases hw:dC (L.length:Int) 1 8 with
 | false =>
  rw [hw] at hW
  refine cW aOR [] ?_
  dsimp only [aOR,cT,c7]
  repeat' (first|(simp only [cO,↓wA,↓wC,wB,cL,cK,b7,b8,b9,reduceIte,reduceCtorEq,aA,cA])|(refine cI (hW) rfl rfl ?_)|(refine cM (hW) rfl rfl ?_)|((first|apply cG|apply cH|apply cF)<;>intro h<;>try simp only [h]))
  all_goals rfl
 | true =>
  rw [hw] at hW
  refine cW aOR [] ?_
  dsimp only [aOR,cT,c7]
  repeat' (first|(simp only [cO,↓wA,↓wC,wB,cL,cK,b7,b8,b9,reduceIte,reduceCtorEq,aA,cA])|(refine cI (hW) rfl rfl ?_)|(refine cM (hW) rfl rfl ?_)|(refine cI (hC) rfl rfl ?_)|(refine cM (hC) rfl rfl ?_)|((first|apply cG|apply cH|apply cF)<;>intro h<;>try simp only [h]))
  all_goals simp
theorem aIg (L:List (List UInt8)) (hl:L.length<=1048576) (hx:∀ s∈L,s.length<=1048576):Fn prog 86 [.sl false 1 (dl D.str L)] (fun rs=>rs=[.bool (eM L)]):=by
 have hW:=iK (L.length:Int) 1 8
 unfold eM
 refine cW aU9 [] ?_
 dsimp only [aU9,cT,c7]
 repeat' (first|(simp only [cJ,↓wA,↓wC,wB,cL,cK,b7,b8,b9,reduceIte,reduceCtorEq,aA,cA])|((first|apply cG|apply cH|apply cF)<;>intro h<;>try simp only [h]))
 refine dR L.length (fun i:Nat=>⟨[(0,.d (.sl false 1 (dl D.str L))),(3,.d (.int .i64 i))],[]⟩) (fun i=>∀ j b,j < i->L[j]?=some b->kJ b=true) (cU _ rfl ⟨⟨rfl,rfl⟩,⟨rfl,rfl⟩,trivial⟩) (fun j r hj=>by omega) ?_ ?_
 ·intro i hlt hinv hd h0
  obtain ⟨b,hb⟩:=dP hlt
  have hE:=aG4 b (hx b (aD hb))
  cases hbo:kJ b with
  | false =>
   rw [hbo] at hE
   have:L.all kJ=false:=a8.2 ⟨b,aD hb,by rw [hbo]; simp⟩
   rw [this,bT]
   repeat' (first|(simp only [cJ,cO,c6,hd,h0,hb,aB,aC,↓wA,↓wC,wB,cL,cK,b7,b8,b9,reduceIte,reduceCtorEq,aA,cA])|(refine cI (hE) rfl rfl ?_)|(refine cM (hE) rfl rfl ?_)|(with_reducible refine cP ?_ ?_; focus (simp only [dX]; omega))|((first|apply cG|apply cH|apply cF)<;>intro h<;>try simp only [h]))
  | true =>
   rw [hbo] at hE
   repeat' (first|(simp only [cJ,cO,c6,hd,h0,hb,aB,aC,↓wA,↓wC,wB,cL,cK,b7,b8,b9,reduceIte,reduceCtorEq,aA,cA])|(refine cI (hE) rfl rfl ?_)|(refine cM (hE) rfl rfl ?_)|(with_reducible refine cP ?_ ?_; focus (simp only [dX]; omega))|((first|apply cG|apply cH|apply cF)<;>intro h<;>try simp only [h]))
   refine fF (cU _ rfl ⟨⟨rfl,rfl⟩,⟨rfl,rfl⟩,trivial⟩) hlt fun j c hj hc=>?_
   by_cases e:j=i
   ·subst e; rw [hb] at hc; injection hc with hc; rw [<- hc]; exact hbo
   ·exact hinv j c (by omega) hc
 ·intro hinv hd
  have:L.all kJ=true:=aS.2 fun b hb=>by
   obtain ⟨j,hj⟩:=List.getElem?_of_mem hb
   exact hinv j b (cV hj) hj
  rw [this,aW]
  repeat' (first|(simp only [cJ,cO,hd,↓wA,↓wC,wB,cL,cK,b7,b8,b9,reduceIte,reduceCtorEq,aA,cA])|(refine cI (hW) rfl rfl ?_)|(refine cM (hW) rfl rfl ?_)|((first|apply cG|apply cH|apply cF)<;>intro h<;>try simp only [h]))
def gN (x:Cs):Bool:=dC x.i 1 999 && dC x.a 1 3 && dC x.d 0 20000 && decide ((x.h.length:Int)<=5) && (x.h.all (fun n=>dC n 1 9) && oE x.h)
theorem aDs (n:Int):Fn prog 135 [.int .i64 n] (fun rs=>rs=[.bool (dC n 1 999)]):=by
 refine cW aRM [] ?_
 dsimp only [aRM,cT,c7]
 repeat' (first|(simp only [↓wA,↓wC,wB,cL,cK,b7,b8,b9,reduceIte,reduceCtorEq,aA,cA])|(refine cI (e8 _ _ _) rfl rfl ?_)|(refine cM (e8 _ _ _) rfl rfl ?_)|((first|apply cG|apply cH|apply cF)<;>intro h<;>try simp only [h]))
theorem aNz (n:Int):Fn prog 136 [.int .i64 n] (fun rs=>rs=[.bool (dC n 1 3)]):=by
 refine cW aRF [] ?_
 dsimp only [aRF,cT,c7]
 repeat' (first|(simp only [↓wA,↓wC,wB,cL,cK,b7,b8,b9,reduceIte,reduceCtorEq,aA,cA])|(refine cI (e8 _ _ _) rfl rfl ?_)|(refine cM (e8 _ _ _) rfl rfl ?_)|((first|apply cG|apply cH|apply cF)<;>intro h<;>try simp only [h]))
theorem tH (n:Int):Fn prog 140 [.int .i64 n] (fun rs=>rs=[.bool (dC n 1 9)]):=by
 refine cW aJt [] ?_
 dsimp only [aJt,cT,c7]
 repeat' (first|(simp only [↓wA,↓wC,wB,cL,cK,b7,b8,b9,reduceIte,reduceCtorEq,aA,cA])|(refine cI (e8 _ _ _) rfl rfl ?_)|(refine cM (e8 _ _ _) rfl rfl ?_)|((first|apply cG|apply cH|apply cF)<;>intro h<;>try simp only [h]))
theorem aIh (n:Int):Fn prog 139 [.int .i64 n] (fun rs=>rs=[.bool (!dC n 1 9)]):=by
 refine cW aRP [] ?_
 dsimp only [aRP,cT,c7]
 repeat' (first|(simp only [↓wA,↓wC,wB,cL,cK,b7,b8,b9,reduceIte,reduceCtorEq,aA,cA])|(refine cI (tH n) rfl rfl ?_)|(refine cM (tH n) rfl rfl ?_)|((first|apply cG|apply cH|apply cF)<;>intro h<;>try simp only [h]))
theorem aK0 (x:Cs) (hx:x.ok0):Fn prog 100 [x.s] (fun rs=>rs=[.bool (gN x)]):=by
 have hR:=aDs x.i
 have hA:=aNz x.a
 have hD:=aF8 x.d
 have hS:=aFr x.h hx
 have hC:=zG (fun n=>!dC n 1 9) 139 .nil x.h rfl aVr hx (fun n _=>aIh n)
 rw [aJb] at hC
 unfold gN
 generalize dC x.i 1 999=b1 at *
 generalize dC x.a 1 3=b2 at *
 generalize dC x.d 0 20000=b3 at *
 generalize (x.h.all fun n=>dC n 1 9)=b4 at *
 generalize oE x.h=b5 at *
 refine cW aQI [] ?_
 dsimp only [aQI,cT,c7]
 simp only [Cs.s,Cs.p]
 repeat' (first|(simp only [cY,cJ,cO,↓wA,↓wC,wB,cL,cK,b7,b8,b9,reduceIte,reduceCtorEq,aA,cA])|(refine cI (hR) rfl rfl ?_)|(refine cM (hR) rfl rfl ?_)|(refine cI (hA) rfl rfl ?_)|(refine cM (hA) rfl rfl ?_)|(refine cI (hD) rfl rfl ?_)|(refine cM (hD) rfl rfl ?_)|(refine cI (hS) rfl rfl ?_)|(refine cM (hS) rfl rfl ?_)|(refine cI (hC) rfl rfl ?_)|(refine cM (hC) rfl rfl ?_)|((first|apply cG|apply cH|apply cF)<;>intro h<;>try simp only [h]))
 all_goals (clear hR hA hD hS hC; simp_all)
theorem aIv (x:Cs) (hx:x.ok0):Fn prog 87 [x.s] (fun rs=>rs=[.bool (gN x)]):=by
 have hR:=iK x.i 1 999
 have hA:=iK x.a 1 3
 have hD:=aGu x.d
 have hS:=aGJ x.h 1 9 hx
 unfold gN
 generalize dC x.i 1 999=b1 at *
 generalize dC x.a 1 3=b2 at *
 generalize dC x.d 0 20000=b3 at *
 generalize ((x.h.all fun n=>dC n 1 9) && oE x.h)=b4 at *
 refine cW aT9 [] ?_
 dsimp only [aT9,cT,c7]
 simp only [Cs.s,Cs.p]
 repeat' (first|(simp only [cY,cJ,cO,↓wA,↓wC,wB,cL,cK,b7,b8,b9,reduceIte,reduceCtorEq,aA,cA])|(refine cI (hR) rfl rfl ?_)|(refine cM (hR) rfl rfl ?_)|(refine cI (hA) rfl rfl ?_)|(refine cM (hA) rfl rfl ?_)|(refine cI (hD) rfl rfl ?_)|(refine cM (hD) rfl rfl ?_)|(refine cI (hS) rfl rfl ?_)|(refine cM (hS) rfl rfl ?_)|((first|apply cG|apply cH|apply cF)<;>intro h<;>try simp only [h]))
 all_goals (clear hR hA hD hS; simp_all)
theorem p8 {x:Cs} {K:SV->Prop}:dG 0 0 (.d (.ptr x.s)) K=K (.d (.ptr (.int .i64 x.i))):=by simp [Cs.s,Cs.p,dG,D.pre,D.nth]
theorem wY {x:Cs} {K:SV->Prop}:dG 1 1 (.d (.ptr x.s)) K=K (.d (.ptr (.int .i64 x.a))):=by simp [Cs.s,Cs.p,dG,D.pre,D.nth,D.size]
theorem sX {x:Cs} {K:SV->Prop}:dG 2 2 (.d (.ptr x.s)) K=K (.d (.ptr (.int .i64 x.d))):=by simp [Cs.s,Cs.p,dG,D.pre,D.nth,D.size]
theorem uE {x:Cs} {K:SV->Prop}:dG 3 3 (.d (.ptr x.s)) K=K (.d (.ptr (.sl false 1 (dl iD x.h)))):=by simp [Cs.s,Cs.p,dG,D.pre,D.nth,D.size]
theorem iL {x:Cs}:fL [0] x.s=0:=rfl
theorem jG {x:Cs}:fL [1] x.s=1:=rfl
theorem iS {x:Cs}:fL [2] x.s=2:=rfl
theorem iV {x:Cs}:fL [3] x.s=3:=rfl
theorem iM {x:Cs}:gU [0] x.s=some (.int .i64 x.i):=rfl
theorem jH {x:Cs}:gU [1] x.s=some (.int .i64 x.a):=rfl
theorem iU {x:Cs}:gU [2] x.s=some (.int .i64 x.d):=rfl
theorem iX {x:Cs}:gU [3] x.s=some (.sl false 1 (dl iD x.h)):=rfl
theorem aWw (o:Off):o.s.isV=true:=rfl
theorem aWz (o:Off):o.s.size=5:=rfl
theorem aWP (o:Off):o.o.isV=true:=rfl
theorem aWM (o:Off):o.o.size=5:=rfl
def ltC (xs:List Cs) (i:Nat) (x:Cs):Bool:=match i with
 | 0=>true
 | k + 1=>match xs[k]? with
  | some y=>decide (y.i < x.i)
  | none=>true
def aCU (xs:List Cs) (i:Nat):Bool:=match xs[i]? with
 | some x=>gN x && ltC xs i x
 | none=>false
theorem aBR {xs:List Cs} {i:Nat} {x:Cs} (hr:xs[i]?=some x):aCU xs i=(gN x && ltC xs i x):=by
 unfold aCU; rw [hr]
def yC (xs:List Cs):Bool:=(b6 xs.length).all (aCU xs)
theorem qV {xs:List Cs} {i:Nat} (hi:i < xs.length) (h:aCU xs i=false):yC xs=false:=by
 refine a8.2 ⟨i,bH.2 hi,by rw [h]; simp⟩
theorem aAH {xs:List Cs} (h:∀ j,j < xs.length->aCU xs j=true):yC xs=true :=
 aS.2 fun j hj=>h j (bH.1 hj)
def aCn (L:List (List UInt8)):Bool:=!decide ((0:Int) < (L.length:Int)) || eM L
def tC (o:Off):Bool:=dC o.day 0 20000 && decide ((o.cs.length:Int)<=6) && dC o.kept 0 999 && dC o.moved 0 999 && aCn o.led
def dO (o:Off):Bool:=tC o && yC o.cs
theorem aQF {xs:List Cs} {i:Nat} {x:Cs} (hlt:i < xs.length):(decide ((0:Int) < (i:Int))=false/\ltC xs i x=true)\/∃ y,decide ((0:Int) < (i:Int))=true/\(0:Int)<=(i:Int) - 1/\xs[((i:Int) - 1).toNat]?=some y/\decide (x.i<=y.i)=!ltC xs i x:=by
 cases i with
 | zero=>exact .inl ⟨rfl,rfl⟩
 | succ k =>
  obtain ⟨y,hy⟩:=dP (show k < xs.length by omega)
  refine .inr ⟨y,decide_eq_true (by omega),by omega,?_,?_⟩
  ·rw [show (((k + 1:Nat):Int) - 1).toNat=k by omega]; exact hy
  ·have:ltC xs (k + 1) x=decide (y.i < x.i):=by simp only [ltC,hy]
   rw [this]
   by_cases h:y.i < x.i
   ·rw [decide_eq_true h,decide_eq_false (by omega)]; rfl
   ·rw [decide_eq_false h,decide_eq_true (by omega)]; rfl
theorem jT (o:Off) (ho:o.ok0):Fn prog 64 [o.s] (fun rs=>rs=[.bool (dO o)]):=by
 have hDay:=aF8 o.day
 have hK:=e8 o.kept 0 999
 have hM:=e8 o.moved 0 999
 have hL:=aAM o.led ho.2.1
 have hlen:=ho.1.1
 have hh:tC o=(dC o.day 0 20000 && decide ((o.cs.length:Int)<=6) && dC o.kept 0 999 && dC o.moved 0 999 && aCn o.led):=rfl
 unfold aCn at hh
 unfold dO
 have body:tC o=true->Fn prog 64 [o.s] (fun rs=>rs=[.bool (yC o.cs)]):=by
  intro hho
  rw [hh] at hho
  simp only [aQ] at hho
  obtain ⟨⟨⟨⟨q1,q2⟩,q3⟩,q4⟩,q5⟩:=hho
  rw [q1] at hDay
  rw [q3] at hK
  rw [q4] at hM
  have q2':=of_decide_eq_true q2
  have e2:decide ((6:Int) < (o.cs.length:Int))=false:=decide_eq_false (by omega)
  generalize hlg:eM o.led=b5 at *
  refine cW aQd [] ?_
  dsimp only [aQd,cT,c7]
  simp only [Off.s,dU]
  repeat' (first|(simp only [cX,cR,cJ,cO,e2,↓wA,↓wC,wB,cL,cK,b7,b8,b9,reduceIte,reduceCtorEq,aA,cA])|(refine cI (hDay) rfl rfl ?_)|(refine cM (hDay) rfl rfl ?_)|(refine cI (hK) rfl rfl ?_)|(refine cM (hK) rfl rfl ?_)|(refine cI (hM) rfl rfl ?_)|(refine cM (hM) rfl rfl ?_)|(refine cI (hL) rfl rfl ?_)|(refine cM (hL) rfl rfl ?_)|((first|apply cG|apply cH|apply cF)<;>intro h<;>try simp only [h]))
  any_goals (exfalso; clear hDay hK hM hL; simp_all; done)
  all_goals
   refine dR o.cs.length (fun i:Nat=>⟨[(1,.ptr 0 0 []),(40,.d (.sl false 4 (dl Cs.s o.cs))),(41,.d (.int .i64 o.cs.length)),(42,.d (.int .i64 i))],[.box o.s]⟩) (fun i=>∀ j,j < i->aCU o.cs j=true) (cU _ rfl ⟨⟨rfl,rfl⟩,⟨rfl,rfl⟩,⟨rfl,rfl⟩,⟨rfl,rfl⟩,trivial⟩) (fun j hj=>by omega) ?_ ?_
   ·intro i hlt hinv hd h0
    obtain ⟨x,hr⟩:=dP hlt
    have hst:=aBR hr
    have hok:=aK0 x (ho.1.2 x (aD hr))
    simp only [Off.s,dU]
    rcases aQF (x:=x) hlt with ⟨hg,hl⟩|⟨y,hg,h1,hy,hq⟩
    ·rw [hl,aW] at hst
     repeat' (first|(simp only [cX,cR,cO,c6,hd,h0,hg,aB,hr,aC,↓iH,aWF,aWD,aWC,aWE,cJ,↓wA,↓wC,wB,cL,cK,b7,b8,b9,reduceIte,reduceCtorEq,aA,cA])|(refine cI (hok) rfl rfl ?_)|(refine cM (hok) rfl rfl ?_)|(with_reducible refine cP ?_ ?_; focus (simp only [dX]; omega))|((first|apply cG|apply cH|apply cF)<;>intro h<;>try simp only [h]))
     all_goals first
      |(refine fF (cU _ rfl ⟨⟨rfl,rfl⟩,⟨rfl,rfl⟩,⟨rfl,rfl⟩,⟨rfl,rfl⟩,trivial⟩) hlt (xW hinv ?_); focus (clear hok; rw [hst]; simp_all; done))
      |(refine (congrArg (fun b=>[D.bool b]) (qV hlt ?_)).symm; focus (clear hok; rw [hst]; simp_all; done))
      | trace_state
    ·repeat' (first|(simp only [cX,cR,cO,c6,hd,h0,hg,h1,hy,hq,aB,hr,aC,↓iH,↓p8,iL,iM,aWF,aWD,aWC,aWE,cJ,↓wA,↓wC,wB,cL,cK,b7,b8,b9,reduceIte,reduceCtorEq,aA,cA])|(refine cI (hok) rfl rfl ?_)|(refine cM (hok) rfl rfl ?_)|(with_reducible refine cP ?_ ?_; focus (simp only [dX]; omega))|((first|apply cG|apply cH|apply cF)<;>intro h<;>try simp only [h]))
     all_goals first
      |(refine fF (cU _ rfl ⟨⟨rfl,rfl⟩,⟨rfl,rfl⟩,⟨rfl,rfl⟩,⟨rfl,rfl⟩,trivial⟩) hlt (xW hinv ?_); focus (clear hok; rw [hst]; simp_all; done))
      |(refine (congrArg (fun b=>[D.bool b]) (qV hlt ?_)).symm; focus (clear hok; rw [hst]; simp_all; done))
      | trace_state
   ·intro hinv hd
    have hall:=aAH hinv
    rw [hall]
    simp only [Off.s,dU]
    repeat' (first|(simp only [cX,cR,cO,hd,cJ,↓wA,↓wC,wB,cL,cK,b7,b8,b9,reduceIte,reduceCtorEq,aA,cA])|((first|apply cG|apply cH|apply cF)<;>intro h<;>try simp only [h]))
 cases hho:tC o with
 | true=>simpa using body hho
 | false =>
  rw [hh] at hho
  rw [bU]
  generalize hlg:eM o.led=b5 at *
  generalize dC o.day 0 20000=b1 at *
  generalize dC o.kept 0 999=b3 at *
  generalize dC o.moved 0 999=b4 at *
  refine cW aQd [] ?_
  dsimp only [aQd,cT,c7]
  simp only [Off.s,dU]
  repeat' (first|(simp only [cX,cR,cJ,cO,↓wA,↓wC,wB,cL,cK,b7,b8,b9,reduceIte,reduceCtorEq,aA,cA])|(refine cI (hDay) rfl rfl ?_)|(refine cM (hDay) rfl rfl ?_)|(refine cI (hK) rfl rfl ?_)|(refine cM (hK) rfl rfl ?_)|(refine cI (hM) rfl rfl ?_)|(refine cM (hM) rfl rfl ?_)|(refine cI (hL) rfl rfl ?_)|(refine cM (hL) rfl rfl ?_)|((first|apply cG|apply cH|apply cF)<;>intro h<;>try simp only [h]))
  all_goals first
   | rfl
   |(exfalso; clear hDay hK hM hL body; simp_all; done)
   |(exfalso; clear hDay hK hM hL body; simp_all; omega)
theorem fV (o:Off) (ho:o.ok0):Fn prog 53 [o.s] (fun rs=>rs=[.bool (dO o)]):=by
 have hDay:=aGu o.day
 have hK:=iK o.kept 0 999
 have hM:=iK o.moved 0 999
 have hL:=aIg o.led ho.2.1 ho.2.2
 have hlen:=ho.1.1
 have hh:tC o=(dC o.day 0 20000 && decide ((o.cs.length:Int)<=6) && dC o.kept 0 999 && dC o.moved 0 999 && aCn o.led):=rfl
 unfold aCn at hh
 unfold dO
 have body:tC o=true->Fn prog 53 [o.s] (fun rs=>rs=[.bool (yC o.cs)]):=by
  intro hho
  rw [hh] at hho
  simp only [aQ] at hho
  obtain ⟨⟨⟨⟨q1,q2⟩,q3⟩,q4⟩,q5⟩:=hho
  rw [q1] at hDay
  rw [q3] at hK
  rw [q4] at hM
  have q2':=of_decide_eq_true q2
  have e2:decide ((6:Int) < (o.cs.length:Int))=false:=decide_eq_false (by omega)
  generalize hlg:eM o.led=b5 at *
  refine cW aPM [] ?_
  dsimp only [aPM,cT,c7]
  simp only [Off.s,dU]
  repeat' (first|(simp only [cX,cR,cJ,cO,e2,↓wA,↓wC,wB,cL,cK,b7,b8,b9,reduceIte,reduceCtorEq,aA,cA])|(refine cI (hDay) rfl rfl ?_)|(refine cM (hDay) rfl rfl ?_)|(refine cI (hK) rfl rfl ?_)|(refine cM (hK) rfl rfl ?_)|(refine cI (hM) rfl rfl ?_)|(refine cM (hM) rfl rfl ?_)|(refine cI (hL) rfl rfl ?_)|(refine cM (hL) rfl rfl ?_)|((first|apply cG|apply cH|apply cF)<;>intro h<;>try simp only [h]))
  any_goals (exfalso; clear hDay hK hM hL; simp_all; done)
  all_goals
   refine dR o.cs.length (fun i:Nat=>⟨[(1,.ptr 0 0 []),(3,.d (.int .i64 i))],[.box o.s]⟩) (fun i=>∀ j,j < i->aCU o.cs j=true) (cU _ rfl ⟨⟨rfl,rfl⟩,⟨rfl,rfl⟩,trivial⟩) (fun j hj=>by omega) ?_ ?_
   ·intro i hlt hinv hd h0
    obtain ⟨x,hr⟩:=dP hlt
    have hst:=aBR hr
    have hok:=aIv x (ho.1.2 x (aD hr))
    simp only [Off.s,dU]
    rcases aQF (x:=x) hlt with ⟨hg,hl⟩|⟨y,hg,h1,hy,hq⟩
    ·rw [hl,aW] at hst
     repeat' (first|(simp only [cX,cR,cO,c6,hd,h0,hg,aB,hr,aC,↓iH,aWF,aWD,aWC,aWE,cJ,↓wA,↓wC,wB,cL,cK,b7,b8,b9,reduceIte,reduceCtorEq,aA,cA])|(refine cI (hok) rfl rfl ?_)|(refine cM (hok) rfl rfl ?_)|(with_reducible refine cP ?_ ?_; focus (simp only [dX]; omega))|((first|apply cG|apply cH|apply cF)<;>intro h<;>try simp only [h]))
     all_goals first
      |(refine fF (cU _ rfl ⟨⟨rfl,rfl⟩,⟨rfl,rfl⟩,trivial⟩) hlt (xW hinv ?_); focus (clear hok; rw [hst]; simp_all; done))
      |(refine (congrArg (fun b=>[D.bool b]) (qV hlt ?_)).symm; focus (clear hok; rw [hst]; simp_all; done))
      | trace_state
    ·repeat' (first|(simp only [cX,cR,cO,c6,hd,h0,hg,h1,hy,hq,aB,hr,aC,↓iH,↓p8,iL,iM,aWF,aWD,aWC,aWE,cJ,↓wA,↓wC,wB,cL,cK,b7,b8,b9,reduceIte,reduceCtorEq,aA,cA])|(refine cI (hok) rfl rfl ?_)|(refine cM (hok) rfl rfl ?_)|(with_reducible refine cP ?_ ?_; focus (simp only [dX]; omega))|((first|apply cG|apply cH|apply cF)<;>intro h<;>try simp only [h]))
     all_goals first
      |(refine fF (cU _ rfl ⟨⟨rfl,rfl⟩,⟨rfl,rfl⟩,trivial⟩) hlt (xW hinv ?_); focus (clear hok; rw [hst]; simp_all; done))
      |(refine (congrArg (fun b=>[D.bool b]) (qV hlt ?_)).symm; focus (clear hok; rw [hst]; simp_all; done))
      | trace_state
   ·intro hinv hd
    have hall:=aAH hinv
    rw [hall]
    simp only [Off.s,dU]
    repeat' (first|(simp only [cX,cR,cO,hd,cJ,↓wA,↓wC,wB,cL,cK,b7,b8,b9,reduceIte,reduceCtorEq,aA,cA])|((first|apply cG|apply cH|apply cF)<;>intro h<;>try simp only [h]))
 cases hho:tC o with
 | true=>simpa using body hho
 | false =>
  rw [hh] at hho
  rw [bU]
  generalize hlg:eM o.led=b5 at *
  generalize dC o.day 0 20000=b1 at *
  generalize dC o.kept 0 999=b3 at *
  generalize dC o.moved 0 999=b4 at *
  refine cW aPM [] ?_
  dsimp only [aPM,cT,c7]
  simp only [Off.s,dU]
  repeat' (first|(simp only [cX,cR,cJ,cO,↓wA,↓wC,wB,cL,cK,b7,b8,b9,reduceIte,reduceCtorEq,aA,cA])|(refine cI (hDay) rfl rfl ?_)|(refine cM (hDay) rfl rfl ?_)|(refine cI (hK) rfl rfl ?_)|(refine cM (hK) rfl rfl ?_)|(refine cI (hM) rfl rfl ?_)|(refine cM (hM) rfl rfl ?_)|(refine cI (hL) rfl rfl ?_)|(refine cM (hL) rfl rfl ?_)|((first|apply cG|apply cH|apply cF)<;>intro h<;>try simp only [h]))
  all_goals first
   | rfl
   |(exfalso; clear hDay hK hM hL body; simp_all; done)
   |(exfalso; clear hDay hK hM hL body; simp_all; omega)
def aQH:Sh:=.st (.cons (.int .i64) (.cons (.sl 4 (.st (.cons (.int .i64) (.cons (.int .i64) (.cons (.int .i64) (.cons (.sl 1 (.int .i64)) .nil)))))) (.cons (.int .i64) (.cons (.int .i64) (.cons (.sl 1 .str) .nil)))))
theorem aTi (x:D) (h:jN (.int .i64) x):∃ n:Int,x=iD n/\True:=by
 obtain ⟨n,rfl,_⟩:=h
 exact ⟨n,rfl,trivial⟩
theorem aIa (x:D) (h:jN .str x):∃ s:List UInt8,x=.str s/\s.length<=maxLen:=by
 obtain ⟨s,rfl,hs⟩:=h
 exact ⟨s,rfl,hs⟩
theorem aP2 (x:D) (h:jN (.st (.cons (.int .i64) (.cons (.int .i64) (.cons (.int .i64) (.cons (.sl 1 (.int .i64)) .nil))))) x):∃ c:Cs,x=c.s/\c.h.length<=maxLen:=by
 obtain ⟨_,rfl,_,_,rfl,⟨i,rfl,_⟩,_,_,rfl,⟨a,rfl,_⟩,_,_,rfl,⟨d,rfl,_⟩,_,_,rfl,⟨ds,rfl,h1,h2⟩,rfl⟩:=h
 obtain ⟨v,hv,hl,_⟩:=s6 (f:=iD) (P:=fun _=>True) aTi ds h2
 exact ⟨⟨i,a,d,v⟩,by rw [hv]; rfl,by rw [hl]; exact h1⟩
def Off.raw (o:Off):Prop:=o.cs.length<=maxLen/\(∀ x∈o.cs,x.h.length<=maxLen)/\o.led.length<=maxLen/\∀ s∈o.led,s.length<=maxLen
theorem aTk (x:D) (h:jN aQH x):∃ o:Off,x=o.s/\o.raw:=by
 obtain ⟨_,rfl,_,_,rfl,⟨day,rfl,_⟩,_,_,rfl,⟨cs,rfl,c1,c2⟩,_,_,rfl,⟨k,rfl,_⟩,_,_,rfl,⟨m,rfl,_⟩,_,_,rfl,⟨ls,rfl,l1,l2⟩,rfl⟩:=h
 obtain ⟨xs,hxs,hxl,hxp⟩:=s6 (f:=Cs.s) (P:=fun c=>c.h.length<=maxLen) aP2 cs c2
 obtain ⟨L,hL,hLl,hLp⟩:=s6 (f:=D.str) (P:=fun s=>s.length<=maxLen) aIa ls l2
 exact ⟨⟨day,xs,k,m,L⟩,by rw [hxs,hL]; rfl,by rw [hxl]; exact c1,hxp,by rw [hLl]; exact l1,hLp⟩
theorem aL2 (o:Off) (h:o.raw):Fn prog 27 [o.s,.int .i64 1048576] (fun rs=>∃ m:Int,rs=[.int .i64 m]/\-1<=m/\m<=1048576/\(0<=m->o.ok0)) :=
 aFN o 1048576 (by decide) (by decide) h.1 h.2.1 h.2.2.1 h.2.2.2
structure Con where
 o:Off
 d:List UInt8
 p:List UInt8
 c:Int
def oZ (x y:D):D:=.st (.cons x (.cons y .nil))
def Con.s (x:Con):D:=oZ x.o.s (fE x.d x.p x.c)
def Con.o' (x:Con):D:=oZ x.o.o (fE x.d x.p x.c)
def Con.raw (x:Con):Prop:=x.o.raw/\x.d.length<=maxLen/\x.p.length<=maxLen
def Con.ok0 (x:Con):Prop:=x.o.ok0/\x.d.length + x.p.length<=1048576
def nZ (x:Con):Bool:=dO x.o && lv x.d x.p x.c
theorem eG (d p:List UInt8) (c:Int):(fE d p c).noOwn=true:=rfl
theorem mD (d p:List UInt8) (c:Int):(fE d p c).unown=fE d p c:=rfl
theorem jL (d p:List UInt8) (c:Int):(fE d p c).isV=true:=rfl
theorem g8 (d p:List UInt8) (c:Int):(fE d p c).size=3:=rfl
theorem aWO (o:Off):o.o.noOwn=false:=by simp [Off.o,dU,D.noOwn]
theorem aWx (x:Con):x.s.noOwn=true:=by simp [Con.s,oZ,D.noOwn,aWu,eG]
theorem aWB (x:Con):x.s.unown=x.s:=by simp [Con.s,oZ,D.unown,aWv,mD]
theorem aWJ (x:Con):x.o'.unown=x.s:=by simp [Con.o',Con.s,oZ,D.unown,aWH,mD]
theorem aWy (x:Con):x.s.isV=true:=rfl
theorem aWA (x:Con):x.s.size=8:=rfl
theorem aWL (x:Con):x.o'.isV=true:=rfl
theorem aWI (x:Con):x.o'.size=8:=rfl
theorem gD {x:Con} {K:SV->Prop}:dG 0 0 (.d (.ptr x.s)) K=K (.d (.ptr x.o.s)):=by simp [Con.s,oZ,dG,D.pre,D.nth,Off.s,dU,fE]
theorem yP {x:Con} {K:SV->Prop}:dG 1 5 (.d (.ptr x.s)) K=K (.d (.ptr (fE x.d x.p x.c))):=by simp [Con.s,oZ,dG,D.pre,D.nth,D.size,Off.s,dU,fE]
theorem pB {x:Con}:fL [0] x.s=0:=rfl
theorem lB {x:Con}:fL [1] x.s=5:=rfl
theorem qH {x:Con}:gU [0] x.s=some x.o.s:=rfl
theorem lC {x:Con}:gU [1] x.s=some (fE x.d x.p x.c):=rfl
theorem eA {o:List Ob} {K:SV->Prop} {x:Con}:eT o (some 8) x.s K=K (.d x.s):=by simp [Con.s,oZ,eT,D.size,D.noOwn,Off.s,dU,cX,cR,fE]
theorem kD {o:List Ob} {K:SV->Prop} {d p:List UInt8} {c:Int}:eT o (some 3) (fE d p c) K=K (.d (fE d p c)):=by simp [eT,D.size,D.noOwn,fE]
theorem aK5 (d p:List UInt8) (c n:Int) (h0:0<=n) (h1:n<=1048576) (hd:d.length<=maxLen) (hp:p.length<=maxLen):Fn prog 6 [fE d p c,.int .i64 n] (fun rs=>∃ m:Int,rs=[.int .i64 m]/\-1<=m/\m<=n/\(0<=m->d.length + p.length<=1048576)):=by
 rw [eD] at hd hp
 refine cW ef6 [] ?_
 dsimp only [ef6,cT,c7]
 simp only [fE]
 repeat' (first|(simp only [↓wA,↓wC,wB,cL,cK,b7,b8,b9,reduceIte,reduceCtorEq,aA,cA,eP])|(refine cP (by simp only [dX]; omega) ?_)|(refine cP (by simp only [dX]; simp only [decide_eq_true_eq,decide_eq_false_iff_not] at *; omega) ?_)|((first|apply cG|apply cH|apply cF)<;>intro h<;>try simp only [h]))
 all_goals (simp only [decide_eq_true_eq,decide_eq_false_iff_not] at *; exact ⟨_,rfl,by omega,by omega,by omega⟩)
theorem yW (x:Con) (h:x.raw):Fn prog 10 [x.s,.int .i64 1048576] (fun rs=>∃ m:Int,rs=[.int .i64 m]/\-1<=m/\m<=1048576/\(0<=m->x.ok0)):=by
 have hs:=aL2 x.o h.1
 refine cW aVt [] ?_
 dsimp only [aVt,cT,c7]
 repeat' (first|(simp only [pB,lB,qH,lC,eG,↓dF,↓kD,aWx,aWy,aWu,aWw,cJ,↓wA,↓wC,wB,cL,cK,b7,b8,b9,reduceIte,reduceCtorEq,aA,cA,eP])|((first|apply cG|apply cH|apply cF)<;>intro h<;>try simp only [h]))
 refine lN hs (by simp [dB,dI,aWv]) fun rs h'=>?_
 obtain ⟨m,rfl,m1,m2,m3⟩:=h'
 refine ⟨.inl rfl,?_⟩
 cases hm:decide (m < 0) with
 | true =>
  repeat' (first|(simp only [hm,↓wA,↓wC,wB,cL,cK,b7,b8,b9,reduceIte,reduceCtorEq,aA,cA,eP])|((first|apply cG|apply cH|apply cF)<;>intro h<;>try simp only [h]))
  exact ⟨-1,rfl,by omega,by omega,by omega⟩
 | false =>
  have hm':=of_decide_eq_false hm
  repeat' (first|(simp only [hm,pB,lB,qH,lC,eG,↓dF,↓kD,cJ,↓wA,↓wC,wB,cL,cK,b7,b8,b9,reduceIte,reduceCtorEq,aA,cA,eP])|((first|apply cG|apply cH|apply cF)<;>intro h<;>try simp only [h]))
  refine lN (aK5 x.d x.p x.c m (by omega) m2 h.2.1 h.2.2) (by simp [dB,dI,mD]) fun rs h'=>?_
  obtain ⟨q,rfl,q1,q2,q3⟩:=h'
  refine ⟨.inl rfl,?_⟩
  cases hq:decide (q < 0) with
  | true =>
   repeat' (first|(simp only [hq,↓wA,↓wC,wB,cL,cK,b7,b8,b9,reduceIte,reduceCtorEq,aA,cA,eP])|((first|apply cG|apply cH|apply cF)<;>intro h<;>try simp only [h]))
   exact ⟨-1,rfl,by omega,by omega,by omega⟩
  | false =>
   have hq':=of_decide_eq_false hq
   repeat' (first|(simp only [hq,↓wA,↓wC,wB,cL,cK,b7,b8,b9,reduceIte,reduceCtorEq,aA,cA,eP])|((first|apply cG|apply cH|apply cF)<;>intro h<;>try simp only [h]))
   exact ⟨q,rfl,by omega,by omega,fun _=>⟨m3 (by omega),q3 (by omega)⟩⟩
theorem pN (x:Con) (h:x.ok0):Fn prog 14 [x.s,x.s] (fun rs=>rs=[.bool true]):=by
 have h1:=aDq x.o h.1
 have h2:=aMe x.d x.p x.c
 refine cW aUX [] ?_
 dsimp only [aUX,cT,c7]
 repeat' (first|(simp only [pB,lB,qH,lC,eG,↓dF,↓kD,aWx,aWy,aWu,aWw,cJ,decide_true,↓wA,↓wC,wB,cL,cK,b7,b8,b9,reduceIte,reduceCtorEq,aA,cA,eP])|(refine cI h1 (by simp [dB,dI,aWv]) rfl ?_)|(refine cI h2 (by simp [dB,dI,mD]) rfl ?_)|((first|apply cG|apply cH|apply cF)<;>intro h<;>try simp only [h]))
 all_goals trace_state
theorem qX (x:Con) (h:x.ok0):Fn prog 34 [x.s] (fun rs=>rs=[.bool (nZ x)]):=by
 have h1:=jT x.o h.1
 have h2:=wM x.d x.p x.c (by have:=h.2; omega)
 unfold nZ
 cases hb:dO x.o<;>rw [hb] at h1
 all_goals
  refine cW aUR [] ?_
  dsimp only [aUR,cT,c7]
  repeat' (first|(simp only [pB,lB,qH,lC,eG,↓dF,↓kD,aWx,aWy,aWu,aWw,cJ,decide_true,↓wA,↓wC,wB,cL,cK,b7,b8,b9,reduceIte,reduceCtorEq,aA,cA,eP])|(refine cI h1 (by simp [dB,dI,aWv]) rfl ?_)|(refine cI h2 (by simp [dB,dI,mD]) rfl ?_)|((first|apply cG|apply cH|apply cF)<;>intro h<;>try simp only [h]))
 all_goals simp
theorem aCa (x:Con) (h:x.ok0):Fn prog 29 [x.s] (fun rs=>rs=[.bool (nZ x)]):=by
 have h1:=fV x.o h.1
 have h2:=aEy x.d x.p x.c (by have:=h.2; omega)
 unfold nZ
 cases hb:dO x.o<;>rw [hb] at h1
 all_goals
  refine cW aVc [] ?_
  dsimp only [aVc,cT,c7]
  repeat' (first|(simp only [pB,lB,qH,lC,eG,↓dF,↓kD,aWx,aWy,aWu,aWw,cJ,decide_true,↓wA,↓wC,wB,cL,cK,b7,b8,b9,reduceIte,reduceCtorEq,aA,cA,eP])|(refine cI h1 (by simp [dB,dI,aWv]) rfl ?_)|(refine cI h2 (by simp [dB,dI,mD]) rfl ?_)|((first|apply cG|apply cH|apply cF)<;>intro h<;>try simp only [h]))
 all_goals simp
theorem wJ (x:Con) (h:x.ok0):Fn prog 12 [x.s] (fun rs=>rs=[x.o']):=by
 have h1:=aE1 x.o h.1
 have h2:=aML x.d x.p x.c
 refine cW aVI [[1,1,1,1,0],[1,1,1,1,0],[1,1,1,1,1],[1,1,1,1,1]] ?_
 dsimp only [aVI,cT,c7]
 repeat' (first|(simp only [pB,lB,qH,lC,eG,↓dF,↓kD,aWx,aWy,aWu,aWw,aWP,aWM,aWO,jL,g8,cJ,decide_true,↓wA,↓wC,wB,cL,cK,b7,b8,b9,reduceIte,reduceCtorEq,aA,cA,eP])|(refine cI h1 (by simp [dB,dI,aWv]) rfl ?_)|(refine cI h2 (by simp [dB,dI,mD]) rfl ?_)|((first|apply cG|apply cH|apply cF)<;>intro h<;>try simp only [h]))
 simp only [Off.o,dU]
 refine eI _ (eZ 2 none [0,1] (es:=4) (xs:=dl Cs.o x.o.cs) rfl rfl) fun v1=>?_
 simp only [dY,cX,cR,eG,cJ,↓wA,↓wC,wB,cL,cK,b7,b8,b9,reduceIte,reduceCtorEq,aA,cA,eP]
 refine eI _ (eZ 2 none [0,4] (es:=1) (xs:=dl D.str x.o.led) rfl rfl) fun v2=>?_
 simp only [dY,cX,cR,eG,fE,cJ,↓wA,↓wC,wB,cL,cK,b7,b8,b9,reduceIte,reduceCtorEq,aA,cA,eP]
 refine c8 (gA 1 5 4 none [0,1] rfl rfl rfl rfl (by decide) rfl) ?_
 simp only [dY,cX,cR,cJ,↓wA,↓wC,wB,cL,cK,b7,b8,b9,reduceIte,reduceCtorEq,aA,cA,eP]
 refine c8 (gA 1 7 6 none [0,4] rfl rfl rfl rfl (by decide) rfl) ?_
 simp only [dY,cX,cR,cJ,↓wA,↓wC,wB,cL,cK,b7,b8,b9,reduceIte,reduceCtorEq,aA,cA,eP]
 rfl
def aSs:Sh:=.st (.cons .str (.cons .str (.cons (.int .i64) .nil)))
def conSh:Sh:=.st (.cons aQH (.cons aSs .nil))
theorem aMK (x:D) (h:jN conSh x):∃ c:Con,x=c.s/\c.raw:=by
 obtain ⟨_,rfl,xo,_,rfl,h1,xl,_,rfl,h2,rfl⟩:=h
 obtain ⟨o,rfl,hr⟩:=aTk xo h1
 obtain ⟨_,rfl,_,_,rfl,⟨d,rfl,hd⟩,_,_,rfl,⟨p,rfl,hp⟩,_,_,rfl,⟨c,rfl,_⟩,rfl⟩:=h2
 exact ⟨⟨o,d,p,c⟩,rfl,hr,hd,hp⟩
theorem aFS {w:World} {M:Nat->Prop}:∀ (L:List (List UInt8)) (ds:List Value) (fps:List Nat),(dl D.str L).rep w M ds fps->ds=L.map (fun s=>Value.string ⟨s.toArray⟩)
 | [],ds,fps,h=>h.1
 | s :: L,ds,fps,h=>by
  obtain ⟨c1,c2,f1,f2,rfl,_,h1,h2⟩:=h
  obtain ⟨rfl,_⟩:=h1
  rw [aFS L c2 f2 h2]; rfl
theorem aPF (L:List (List UInt8)) (sep:List UInt8) (hN:L.length<=1048576) (hlen:(Lib.join L sep).length<=140737488355328):Fn prog 193 [.sl false 1 (dl D.str L),.str sep] (fun rs=>rs=[.str (Lib.join L sep)]):=by
 intro M vs w hM hG hv
 obtain ⟨cs,us,f1,f2,rfl,_,⟨_,a,c,ds,fps,rfl,hle,hds,hor⟩,⟨cs2,us2,f3,f4,rfl,_,⟨rfl,_⟩,rfl,_⟩⟩:=hv
 have hd:=aFS L ds fps hds
 have hl:(dl D.str L).len=L.length:=cO L
 have e:(L.map fun s:List UInt8=>(⟨s.toArray⟩:ByteArray)).map (·.data.toList)=L:=by
  rw [bW]; exact (List.map_congr_left (fun s _=>by simp)).trans (List.map_id _)
 have e2:(⟨sep.toArray⟩:ByteArray).data.toList=sep:=by simp
 have main:Calls prog.P 193 #[.slice a (dl D.str L).len c,.string ⟨sep.toArray⟩] w fun e w'=>e=.returned (.string ⟨(Lib.join L sep).toArray⟩)/\lK w w':=by
  cases L with
  | nil=>exact (Go.Proofs.Tryz.strings_Join_none a c ⟨sep.toArray⟩ w).mono (by rintro e w' ⟨rfl,rfl⟩; exact ⟨rfl,lK.refl _⟩)
  | cons x r =>
   rw [hl] at hle hor ⊢
   simp only [Bool.false_eq_true,if_false] at hor
   obtain ⟨rfl,_,h0|⟨ad,rfl,hh⟩⟩:=hor
   ·simp at h0
   ·rcases hh with h|⟨hlt,hnM,hcell⟩
    ·rw [h] at hd; simp at hd
    ·have h0:=hcell 0 _ (by rw [hd]; rfl)
     obtain ⟨bk,o,sp⟩:=ad
     cases sp with
     | some s =>
      simp only [World.cell?,Addr.add,if_true] at h0
      split at h0
      ·simp at h0
      ·cases h0
     | none =>
      have hJ:=Go.Proofs.Tryz.strings_Join bk o c ((x :: r).map fun s:List UInt8=>(⟨s.toArray⟩:ByteArray)) ⟨sep.toArray⟩ w (fun j y hy=>by
       rw [List.getElem?_map] at hy
       obtain ⟨s,hs,rfl⟩:=Option.map_eq_some_iff.1 hy
       have:=hcell j (.string ⟨s.toArray⟩) (by rw [hd,List.getElem?_map,hs]; rfl)
       unfold Addr.add at this
       split at this
       ·rename_i hj; subst hj; exact this
       ·exact this) hlt (by rw [aM]; omega) (by rw [aM]; exact hle) (by rw [e,e2]; exact hlen)
      rw [e,e2,aM] at hJ
      exact hJ
 refine Calls.mono main ?_
 rintro e w' ⟨rfl,hx⟩
 exact ⟨[.str (Lib.join L sep)],[.string ⟨(Lib.join L sep).toArray⟩],[],rfl,rfl,tZ rfl,bR,(fun b hb=>by cases hb),hx⟩
theorem sD (sep:List UInt8) (k:Nat):∀ r:List (List UInt8),(∀ x∈r,x.length<=k)->(Lib.joinTail sep r).length<=r.length * (sep.length + k)
 | [],_=>by simp [Lib.joinTail]
 | x :: r,h=>by
  have h1:=sD sep k r (fun y hy=>h y (aY _ hy))
  have h2:=h x aZ
  have:Lib.joinTail sep (x :: r)=sep ++ x ++ Lib.joinTail sep r:=rfl
  rw [this]
  simp only [aE,aF,bY,bZ]
  omega
theorem aC6 (sep:List UInt8) (k:Nat):∀ r:List (List UInt8),(∀ x∈r,x.length<=k)->(Lib.join r sep).length<=r.length * (sep.length + k)
 | [],_=>by simp [Lib.join]
 | x :: r,h=>by
  have h1:=sD sep k r (fun y hy=>h y (aY _ hy))
  have h2:=h x aZ
  rw [Lib.join_cons]
  simp only [aE,aF,bY,bZ]
  omega
theorem zK {v:List Int} (hv:∀ n∈v,dX .i64 n):∀ x∈v.map Lib.itoa,x.length<=21:=by
 intro x hx
 obtain ⟨n,hn,rfl⟩:=List.mem_map.1 hx
 exact eS n (hv n hn)
theorem aAR (v:List Int) (sep:List UInt8) (hv:∀ n∈v,dX .i64 n) (hl:v.length<=1000) (hs:sep.length<=1000):Fn prog 152 [.sl false 1 (dl iD v),.str sep] (fun rs=>rs=[.str (Lib.join (v.map Lib.itoa) sep)]):=by
 have hL:=aC6 sep 21 (v.map Lib.itoa) (zK hv)
 have hb:(v.map Lib.itoa).length * (sep.length + 21)<=1000 * 1021:=Nat.mul_le_mul (by simpa using hl) (by omega)
 have hJ:=aPF (v.map Lib.itoa) sep (by simp; omega) (by omega)
 refine cW aRV [] ?_
 dsimp only [aRV,cT,c7]
 simp only [↓wA,↓wC,wB,cL,cK,b7,b8,b9,reduceIte,reduceCtorEq,aA,cA]
 simp only [cO,↓wA,↓wC,wB,b7,b8,reduceIte,reduceCtorEq]
 refine cQ (by omega) ?_
 have hz:jA (aG (↑v.length:Int).toNat (D.str []))=dl D.str ((v.map Lib.itoa).take 0 ++ aG (v.length - 0) []):=by
  rw [oT]; simp
 rw [hz]
 refine dR v.length (fun i:Nat=>⟨[(1,.d (.str sep)),(5,.own 0),(11,.d (.sl false 1 (dl iD v))),(12,.d (.int .i64 v.length)),(13,.d (.int .i64 i))],[.val (.sl true 1 (dl D.str ((v.map Lib.itoa).take i ++ aG (v.length - i) [])))]⟩) (fun _=>True) (cU _ rfl ⟨⟨rfl,rfl⟩,⟨rfl,rfl⟩,⟨rfl,rfl⟩,⟨rfl,rfl⟩,⟨rfl,rfl⟩,trivial⟩) trivial ?_ ?_
 ·intro i hlt _ hd h0
  obtain ⟨n,hr⟩:=dP hlt
  have hrs:(v.map Lib.itoa)[i]?=some (Lib.itoa n):=by rw [List.getElem?_map,hr]; rfl
  have hD:=fG n (hv n (aD hr))
  have hn:((v.map Lib.itoa).take i ++ aG (v.length - i) ([]:List UInt8))[i]?=some []:=by
   rw [List.getElem?_append_right (by simp; omega),aJ,aM,aL (by omega),aO,show v.length - i=(v.length - (i + 1)) + 1 by omega]; rfl
  have hfs:(dl D.str ((v.map Lib.itoa).take i ++ aG (v.length - i) ([]:List UInt8))).setN i (D.str (Lib.itoa n))=dl D.str ((v.map Lib.itoa).take (i + 1) ++ aG (v.length - (i + 1)) []):=by
   have hl:v.length=(v.map Lib.itoa).length:=by simp
   rw [gV]
   conv=>lhs; rw [hl]
   conv=>rhs; rw [hl]
   rw [u4 hrs]
  repeat' (first|(simp only [cO,c6,hd,h0,aB,hr,hn,hfs,aC,cJ,e9,iD])|(refine cI hD rfl rfl ?_)|(with_reducible refine cP ?_ ?_; focus (simp only [dX]; omega))|((first|apply cG|apply cH|apply cF)<;>intro h<;>try simp only [h]))
  all_goals exact ⟨i + 1,(cU _ rfl ⟨⟨rfl,rfl⟩,⟨rfl,rfl⟩,⟨rfl,rfl⟩,⟨rfl,rfl⟩,⟨rfl,rfl⟩,trivial⟩),by omega,by omega⟩
 ·intro _ hd
  have h1:(v.map Lib.itoa).take v.length=v.map Lib.itoa:=bE (by simp)
  rw [h1,aO,bJ,aN]
  repeat' (first|(simp only [cO,hd,↓wA,↓wC,wB,cL,cK,b7,b8,b9,reduceIte,reduceCtorEq,aA,cA])|(refine cI hJ (by simp [dB,dI,lE,D.unown,fA]) rfl ?_)|((first|apply cG|apply cH|apply cF)<;>intro h<;>try simp only [h]))
  all_goals trace_state
def mR (v:List Int):List UInt8:=if v=[] then [] else [32,104,101,108,100,32] ++ Lib.join (v.map Lib.itoa) [44]
theorem aIc (u:List Int) (n:Int):mR (u ++ [n])=mR u ++ (if u=[] then [32,104,101,108,100,32] else [44]) ++ Lib.itoa n:=by
 cases u with
 | nil=>simp [mR,Lib.join_one]
 | cons x r =>
  have h1:Lib.joinTail [44] (r.map Lib.itoa ++ [Lib.itoa n])=Lib.joinTail [44] (r.map Lib.itoa) ++ ([44] ++ Lib.itoa n):=by simp [Lib.joinTail]
  simp only [mR,aK,if_neg (List.cons_ne_nil _ _),a7,bQ,bX,Lib.join_cons,h1,aI]
theorem aHt {v:List Int} {i:Nat} {n:Int} (hr:v[i]?=some n):mR (v.take (i + 1))=mR (v.take i) ++ (if i=0 then [32,104,101,108,100,32] else [44]) ++ Lib.itoa n:=by
 have hi:=cV hr
 rw [e7 hr,aIc]
 by_cases h:i=0
 ·subst h; simp
 ·have:v.take i≠[]:=by
   intro h'
   have:=congrArg List.length h'
   rw [aJ,aL (by omega)] at this
   exact h this
  rw [if_neg this,if_neg h]
theorem u7 {v:List Int} (hv:∀ n∈v,dX .i64 n):(mR v).length<=6 + v.length * 22:=by
 unfold mR
 split
 ·simp
 ·have:=aC6 [44] 21 (v.map Lib.itoa) (zK hv)
  simp only [aE,aM,aF,aH] at this ⊢
  omega
def aLe (a:Int):List UInt8:=if a=1 then [107,101,101,112] else if a=2 then [116,114,97,110,115,102,101,114] else [100,101,115,116,114,111,121]
def txt (x:Cs):List UInt8:=aLe x.a ++ [32,100,117,101,32] ++ Lib.itoa x.d ++ mR x.h
theorem aCj {x:Cs} (h:gN x=true):(x.a=1\/x.a=2\/x.a=3)/\(0<=x.i/\dX .i64 x.i)/\(0<=x.d/\dX .i64 x.d)/\x.h.length<=5/\∀ n∈x.h,0<=n/\dX .i64 n:=by
 simp only [gN,aQ,dC,decide_eq_true_eq,aS] at h
 obtain ⟨⟨⟨⟨h1,h2⟩,h3⟩,h4⟩,h5,_⟩:=h
 refine ⟨by omega,⟨by omega,by simp only [dX]; omega⟩,⟨by omega,by simp only [dX]; omega⟩,by omega,fun n hn=>?_⟩
 have:=h5 n hn
 exact ⟨by omega,by simp only [dX]; omega⟩
theorem aNj (a:Int):(aLe a).length<=8:=by
 unfold aLe
 split
 ·simp
 ·split<;>simp
theorem aGt:((1:Int) - 1).toNat=0:=rfl
theorem aGw:((2:Int) - 1).toNat=1:=rfl
theorem aCD:((3:Int) - 1).toNat=2:=rfl
theorem yO:decide ((0:Int) < ((0:Nat):Int))=false:=rfl
theorem aFo:((1:Int)).toNat=1:=rfl
theorem aE6:((2:Int)).toNat=2:=rfl
theorem aAj:((3:Int)).toNat=3:=rfl
theorem aFD (x:Cs) (h:gN x=true):Fn prog 156 [x.s] (fun rs=>rs=[.str (txt x)]):=by
 obtain ⟨hA,_,h3,h4,h5⟩:=aCj h
 have hD:=fG x.d h3.2
 have hH:=aAR x.h [44] (fun n hn=>(h5 n hn).2) (by omega) (by simp)
 have hT:=u7 (v:=x.h) (fun n hn=>(h5 n hn).2)
 have hi:=eS x.d h3.2
 have hJl:=aC6 [44] 21 (x.h.map Lib.itoa) (zK (fun n hn=>(h5 n hn).2))
 simp only [aM,aF,aH] at hJl
 obtain ⟨xi,a,d,hs⟩:=x
 simp only at hA h3 h4 h5 hD hH hT hi hJl
 unfold txt
 rcases hA with rfl|rfl|rfl
 all_goals
  cases hs with
  | nil =>
   refine cW aJj [] ?_
   dsimp only [aJj,cT,c7]
   simp only [Cs.s,Cs.p]
   repeat' (first|(simp only [cJ,cY,yO,aGt,aGw,aCD,cO,↓wA,↓wC,wB,cL,cK,b7,b8,b9,reduceIte,reduceCtorEq,aA,cA])|(refine cI hD rfl rfl ?_)|(refine dL ?_)|(with_reducible refine bD ?_ ?_)|(with_reducible refine cQ ?_ ?_; focus ((try simp only [aE,aF,aH]); omega))|(with_reducible refine cP ?_ ?_; focus (simp only [dX]; omega))|((first|apply cG|apply cH|apply cF)<;>intro h<;>try simp only [h]))
   all_goals (simp [aLe,mR]; done)
  | cons n r =>
   have hd0:decide ((0:Int) < ((n :: r).length:Int))=true:=decide_eq_true (by simp only [aF]; omega)
   have hd1:decide (((n :: r).length:Int) > 0)=true:=hd0
   have hT2:mR (n :: r)=[32,104,101,108,100,32] ++ Lib.join ((n :: r).map Lib.itoa) [44]:=rfl
   generalize n :: r=hs at *
   refine cW aJj [] ?_
   dsimp only [aJj,cT,c7]
   simp only [Cs.s,Cs.p]
   repeat' (first|(simp only [cJ,cY,aGt,aGw,aCD,cO,hd0,hd1,↓wA,↓wC,wB,cL,cK,b7,b8,b9,reduceIte,reduceCtorEq,aA,cA])|(refine cI hD rfl rfl ?_)|(refine cI hH rfl rfl ?_)|(refine dL ?_)|(with_reducible refine bD ?_ ?_)|(with_reducible refine cQ ?_ ?_; focus ((try simp only [aE,aF,aH]); omega))|(with_reducible refine cP ?_ ?_; focus (simp only [dX]; omega))|((first|apply cG|apply cH|apply cF)<;>intro h<;>try simp only [h]))
   all_goals (simp [aLe,hT2]; done)
def pre (a:Int):List UInt8:=aLe a ++ [32,100,117,101,32]
theorem aS5 (t:List UInt8):(107 :: 101 :: 101 :: 112 :: 32 :: 100 :: 117 :: 101 :: 32 :: t:List UInt8)=pre 1 ++ t:=rfl
theorem aSW (t:List UInt8):(116 :: 114 :: 97 :: 110 :: 115 :: 102 :: 101 :: 114 :: 32 :: 100 :: 117 :: 101 :: 32 :: t:List UInt8)=pre 2 ++ t:=rfl
theorem aSE (t:List UInt8):(100 :: 101 :: 115 :: 116 :: 114 :: 111 :: 121 :: 32 :: 100 :: 117 :: 101 :: 32 :: t:List UInt8)=pre 3 ++ t:=rfl
theorem aPZ (x:Cs):txt x=pre x.a ++ (Lib.itoa x.d ++ mR x.h):=by simp [txt,pre]
theorem aE5 (a:Int):(pre a).length<=13:=by
 have:=aNj a
 simp only [pre,aE,aF,aH]
 omega
theorem aEO (v:List Int):mR (v.take 0)=[]:=rfl
theorem aEU {v:List Int} {i:Nat} {n:Int} (hr:v[i]?=some n) (h:i=0):mR (v.take (i + 1))=mR (v.take i) ++ (32 :: 104 :: 101 :: 108 :: 100 :: 32 :: Lib.itoa n):=by
 rw [aHt hr,if_pos h,aI]; rfl
theorem aFf {v:List Int} {i:Nat} {n:Int} (hr:v[i]?=some n) (h:¬ i=0):mR (v.take (i + 1))=mR (v.take i) ++ (44 :: Lib.itoa n):=by
 rw [aHt hr,if_neg h,aI]; rfl
theorem aIl (x:Cs) (h:gN x=true):Fn prog 167 [x.s] (fun rs=>rs=[.str (txt x)]):=by
 obtain ⟨hA,_,h3,h4,h5⟩:=aCj h
 have hD:=fR x.d h3.1 h3.2
 have hi:=eS x.d h3.2
 rw [aPZ]
 obtain ⟨xi,a,d,hs⟩:=x
 simp only at hA h3 h4 h5 hD hi ⊢
 rcases hA with rfl|rfl|rfl
 ·skip
  refine cW aDG [] ?_
  dsimp only [aDG,cT,c7]
  simp only [Cs.s,Cs.p]
  repeat' (first|(simp only [cJ,cY,yO,aFo,aE6,aAj,↓wA,↓wC,wB,cL,cK,b7,b8,b9,reduceIte,reduceCtorEq,aA,cA])|(refine cI hD rfl rfl ?_)|(refine dL ?_)|(with_reducible refine bD ?_ ?_)|(with_reducible refine cQ ?_ ?_; focus ((try simp only [aE,aF,aH]); omega))|(with_reducible refine cP ?_ ?_; focus (simp only [dX]; omega))|((first|apply cG|apply cH|apply cF)<;>intro h<;>try simp only [h]))
  all_goals simp only [aS5,aSW,aSE]
  all_goals have hpl:=aE5 1
  all_goals refine dR hs.length (fun i:Nat=>⟨[(1,.ptr 0 0 []),(3,.d (.str (pre 1 ++ (Lib.itoa d ++ mR (hs.take i))))),(4,.d (.int .i64 i))],[.box (.st (.cons (.int .i64 xi) (.cons (.int .i64 1) (.cons (.int .i64 d) (.cons (.sl false 1 (dl iD hs)) .nil)))))]⟩) (fun _=>True) (by rw [aEO,aN]; exact (cU _ rfl ⟨⟨rfl,rfl⟩,⟨rfl,rfl⟩,⟨rfl,rfl⟩,trivial⟩)) trivial ?_ ?_
  all_goals first
   |(intro _ hd
     repeat' (first|(simp only [cJ,cY,cO,hd,aP,↓wA,↓wC,wB,cL,cK,b7,b8,b9,reduceIte,reduceCtorEq,aA,cA])|((first|apply cG|apply cH|apply cF)<;>intro h<;>try simp only [h]))
     done)
   | skip
  all_goals
   intro i hlt _ hd h0
   obtain ⟨n,hr⟩:=dP hlt
   have hn5:=h5 n (aD hr)
   have hN:=fR n hn5.1 hn5.2
   have hnl:=eS n hn5.2
   have hTl:=u7 (v:=hs.take i) (fun m hm=>(h5 m (aT hm)).2)
   rw [aJ,aL (by omega)] at hTl
   by_cases hi0:i=0
   ·have hq:decide ((i:Int)=0)=true:=decide_eq_true (by omega)
    have hx:=aEU hr hi0
    repeat' (first|(simp only [cJ,cY,cO,c6,hd,h0,hq,aB,hr,aC,e9,iD,↓wA,↓wC,wB,cL,cK,b7,b8,b9,reduceIte,reduceCtorEq,aA,cA])|(refine cI hN rfl rfl ?_)|(with_reducible refine cQ ?_ ?_; focus ((try simp only [aE,aF,aH]); omega))|(with_reducible refine cP ?_ ?_; focus (simp only [dX]; omega))|((first|apply cG|apply cH|apply cF)<;>intro h<;>try simp only [h]))
    all_goals (refine ⟨i + 1,?_,by omega,by omega⟩; rw [hx]; (try simp only [aI,aK,aR]); exact (cU _ rfl ⟨⟨rfl,rfl⟩,⟨rfl,rfl⟩,⟨rfl,rfl⟩,trivial⟩))
   ·have hq:decide ((i:Int)=0)=false:=decide_eq_false (by omega)
    have hx:=aFf hr hi0
    repeat' (first|(simp only [cJ,cY,cO,c6,hd,h0,hq,aB,hr,aC,e9,iD,↓wA,↓wC,wB,cL,cK,b7,b8,b9,reduceIte,reduceCtorEq,aA,cA])|(refine cI hN rfl rfl ?_)|(with_reducible refine cQ ?_ ?_; focus ((try simp only [aE,aF,aH]); omega))|(with_reducible refine cP ?_ ?_; focus (simp only [dX]; omega))|((first|apply cG|apply cH|apply cF)<;>intro h<;>try simp only [h]))
    all_goals (refine ⟨i + 1,?_,by omega,by omega⟩; rw [hx]; (try simp only [aI,aK,aR]); exact (cU _ rfl ⟨⟨rfl,rfl⟩,⟨rfl,rfl⟩,⟨rfl,rfl⟩,trivial⟩))
 ·skip
  refine cW aDG [] ?_
  dsimp only [aDG,cT,c7]
  simp only [Cs.s,Cs.p]
  repeat' (first|(simp only [cJ,cY,yO,aFo,aE6,aAj,↓wA,↓wC,wB,cL,cK,b7,b8,b9,reduceIte,reduceCtorEq,aA,cA])|(refine cI hD rfl rfl ?_)|(refine dL ?_)|(with_reducible refine bD ?_ ?_)|(with_reducible refine cQ ?_ ?_; focus ((try simp only [aE,aF,aH]); omega))|(with_reducible refine cP ?_ ?_; focus (simp only [dX]; omega))|((first|apply cG|apply cH|apply cF)<;>intro h<;>try simp only [h]))
  all_goals simp only [aS5,aSW,aSE]
  all_goals have hpl:=aE5 2
  all_goals refine dR hs.length (fun i:Nat=>⟨[(1,.ptr 0 0 []),(3,.d (.str (pre 2 ++ (Lib.itoa d ++ mR (hs.take i))))),(4,.d (.int .i64 i))],[.box (.st (.cons (.int .i64 xi) (.cons (.int .i64 2) (.cons (.int .i64 d) (.cons (.sl false 1 (dl iD hs)) .nil)))))]⟩) (fun _=>True) (by rw [aEO,aN]; exact (cU _ rfl ⟨⟨rfl,rfl⟩,⟨rfl,rfl⟩,⟨rfl,rfl⟩,trivial⟩)) trivial ?_ ?_
  all_goals first
   |(intro _ hd
     repeat' (first|(simp only [cJ,cY,cO,hd,aP,↓wA,↓wC,wB,cL,cK,b7,b8,b9,reduceIte,reduceCtorEq,aA,cA])|((first|apply cG|apply cH|apply cF)<;>intro h<;>try simp only [h]))
     done)
   | skip
  all_goals
   intro i hlt _ hd h0
   obtain ⟨n,hr⟩:=dP hlt
   have hn5:=h5 n (aD hr)
   have hN:=fR n hn5.1 hn5.2
   have hnl:=eS n hn5.2
   have hTl:=u7 (v:=hs.take i) (fun m hm=>(h5 m (aT hm)).2)
   rw [aJ,aL (by omega)] at hTl
   by_cases hi0:i=0
   ·have hq:decide ((i:Int)=0)=true:=decide_eq_true (by omega)
    have hx:=aEU hr hi0
    repeat' (first|(simp only [cJ,cY,cO,c6,hd,h0,hq,aB,hr,aC,e9,iD,↓wA,↓wC,wB,b7,b8,reduceIte])|(refine cI hN rfl rfl ?_)|(with_reducible refine cQ ?_ ?_; focus ((try simp only [aE,aF,aH]); omega))|(with_reducible refine cP ?_ ?_; focus (simp only [dX]; omega))|((first|apply cG|apply cH|apply cF)<;>intro h<;>try simp only [h]))
    all_goals (refine ⟨i + 1,?_,by omega,by omega⟩; rw [hx]; (try simp only [aI,aK,aR]); exact (cU _ rfl ⟨⟨rfl,rfl⟩,⟨rfl,rfl⟩,⟨rfl,rfl⟩,trivial⟩))
   ·have hq:decide ((i:Int)=0)=false:=decide_eq_false (by omega)
    have hx:=aFf hr hi0
    repeat' (first|(simp only [cJ,cY,cO,c6,hd,h0,hq,aB,hr,aC,e9,iD,↓wA,↓wC,wB,cL,cK,b7,b8,b9,reduceIte,reduceCtorEq,aA,cA])|(refine cI hN rfl rfl ?_)|(with_reducible refine cQ ?_ ?_; focus ((try simp only [aE,aF,aH]); omega))|(with_reducible refine cP ?_ ?_; focus (simp only [dX]; omega))|((first|apply cG|apply cH|apply cF)<;>intro h<;>try simp only [h]))
    all_goals (refine ⟨i + 1,?_,by omega,by omega⟩; rw [hx]; (try simp only [aI,aK,aR]); exact (cU _ rfl ⟨⟨rfl,rfl⟩,⟨rfl,rfl⟩,⟨rfl,rfl⟩,trivial⟩))
 ·skip
  refine cW aDG [] ?_
  dsimp only [aDG,cT,c7]
  simp only [Cs.s,Cs.p]
  repeat' (first|(simp only [cJ,cY,yO,aFo,aE6,aAj,↓wA,↓wC,wB,cL,cK,b7,b8,b9,reduceIte,reduceCtorEq,aA,cA])|(refine cI hD rfl rfl ?_)|(refine dL ?_)|(with_reducible refine bD ?_ ?_)|(with_reducible refine cQ ?_ ?_; focus ((try simp only [aE,aF,aH]); omega))|(with_reducible refine cP ?_ ?_; focus (simp only [dX]; omega))|((first|apply cG|apply cH|apply cF)<;>intro h<;>try simp only [h]))
  all_goals simp only [aS5,aSW,aSE]
  all_goals have hpl:=aE5 3
  all_goals refine dR hs.length (fun i:Nat=>⟨[(1,.ptr 0 0 []),(3,.d (.str (pre 3 ++ (Lib.itoa d ++ mR (hs.take i))))),(4,.d (.int .i64 i))],[.box (.st (.cons (.int .i64 xi) (.cons (.int .i64 3) (.cons (.int .i64 d) (.cons (.sl false 1 (dl iD hs)) .nil)))))]⟩) (fun _=>True) (by rw [aEO,aN]; exact (cU _ rfl ⟨⟨rfl,rfl⟩,⟨rfl,rfl⟩,⟨rfl,rfl⟩,trivial⟩)) trivial ?_ ?_
  all_goals first
   |(intro _ hd
     repeat' (first|(simp only [cJ,cY,cO,hd,aP,↓wA,↓wC,wB,cL,cK,b7,b8,b9,reduceIte,reduceCtorEq,aA,cA])|((first|apply cG|apply cH|apply cF)<;>intro h<;>try simp only [h]))
     done)
   | skip
  all_goals
   intro i hlt _ hd h0
   obtain ⟨n,hr⟩:=dP hlt
   have hn5:=h5 n (aD hr)
   have hN:=fR n hn5.1 hn5.2
   have hnl:=eS n hn5.2
   have hTl:=u7 (v:=hs.take i) (fun m hm=>(h5 m (aT hm)).2)
   rw [aJ,aL (by omega)] at hTl
   by_cases hi0:i=0
   ·have hq:decide ((i:Int)=0)=true:=decide_eq_true (by omega)
    have hx:=aEU hr hi0
    repeat' (first|(simp only [cJ,cY,cO,c6,hd,h0,hq,aB,hr,aC,e9,iD,↓wA,↓wC,wB,cL,cK,b7,b8,b9,reduceIte,reduceCtorEq,aA,cA])|(refine cI hN rfl rfl ?_)|(with_reducible refine cQ ?_ ?_; focus ((try simp only [aE,aF,aH]); omega))|(with_reducible refine cP ?_ ?_; focus (simp only [dX]; omega))|((first|apply cG|apply cH|apply cF)<;>intro h<;>try simp only [h]))
    all_goals (refine ⟨i + 1,?_,by omega,by omega⟩; rw [hx]; (try simp only [aI,aK,aR]); exact (cU _ rfl ⟨⟨rfl,rfl⟩,⟨rfl,rfl⟩,⟨rfl,rfl⟩,trivial⟩))
   ·have hq:decide ((i:Int)=0)=false:=decide_eq_false (by omega)
    have hx:=aFf hr hi0
    repeat' (first|(simp only [cJ,cY,cO,c6,hd,h0,hq,aB,hr,aC,e9,iD,↓wA,↓wC,wB,cL,cK,b7,b8,b9,reduceIte,reduceCtorEq,aA,cA])|(refine cI hN rfl rfl ?_)|(with_reducible refine cQ ?_ ?_; focus ((try simp only [aE,aF,aH]); omega))|(with_reducible refine cP ?_ ?_; focus (simp only [dX]; omega))|((first|apply cG|apply cH|apply cF)<;>intro h<;>try simp only [h]))
    all_goals (refine ⟨i + 1,?_,by omega,by omega⟩; rw [hx]; (try simp only [aI,aK,aR]); exact (cU _ rfl ⟨⟨rfl,rfl⟩,⟨rfl,rfl⟩,⟨rfl,rfl⟩,trivial⟩))
end Go.Pe.Tryz
namespace Go.Pe.Tryz
open Go.Proofs.Tryz Go.Sort
theorem pT {x:Con}:fL [1,2] x.s=7:=rfl
theorem qA {x:Con}:gU [1,2] x.s=some (.int .i64 x.c):=rfl
theorem jE {x:Off}:fL [0] x.s=0:=rfl
theorem jB {x:Off}:fL [1] x.s=1:=rfl
theorem o9 {x:Off}:fL [2] x.s=2:=rfl
theorem pA {x:Off}:fL [3] x.s=3:=rfl
theorem kZ {x:Off}:fL [4] x.s=4:=rfl
theorem jJ {x:Off}:gU [0] x.s=some (.int .i64 x.day):=rfl
theorem jC {x:Off}:gU [1] x.s=some (.sl false 4 (dl Cs.s x.cs)):=rfl
theorem o4 {x:Off}:gU [2] x.s=some (.int .i64 x.kept):=rfl
theorem pE {x:Off}:gU [3] x.s=some (.int .i64 x.moved):=rfl
theorem kY {x:Off}:gU [4] x.s=some (.sl false 1 (dl D.str x.led)):=rfl
end Go.Pe.Tryz
namespace Go.Pe.Tryz
open Go.Proofs.Tryz
theorem aDv (p:Cs->Bool) (g:Nat) (c:D) (xs:List Cs) (hc:c.caps=true) (he:gE prog.P g=true) (hlen:xs.length<=1048576) (hp:∀ x∈xs,Fn prog g (Cs.s x :: c.list) (fun rs=>rs=[.bool (p x)])) :
  Fn prog 185 [.sl false 4 (dl Cs.s xs),.clo g c] (fun rs=>rs=[.int .i64 (kN p xs)]):=by
 refine cW aQG [] ?_
 dsimp only [aQG,cT,c7]
 simp only [cO,↓wA,↓wC,wB,cL,cK,b7,b8,b9,reduceIte,reduceCtorEq,aA,cA]
 refine dR xs.length (fun i:Nat=>⟨[(0,.d (.sl false 4 (dl Cs.s xs))),(1,.d (.clo g c)),(7,.d (.int .i64 xs.length)),(8,.d (.int .i64 i))],[]⟩) (fun i=>∀ j r,j < i->xs[j]?=some r->p r=false) (cU _ rfl ⟨⟨rfl,rfl⟩,⟨rfl,rfl⟩,⟨rfl,rfl⟩,⟨rfl,rfl⟩,trivial⟩) (fun j r hj=>by omega) ?_ ?_
 ·intro i hlt hinv hd h0
  obtain ⟨r,hr⟩:=dP hlt
  have hcl:=hp r (aD hr)
  simp only [hd,h0,c6,aB,hr,aC,cJ,↓iH,↓wA,↓wC,wB,b7,b8,reduceIte,reduceCtorEq]
  refine vK (ds:=[Cs.s r]) hcl he hc (by simp [dB,dI,lE,aWE]) rfl ?_
  cases hpr:p r with
  | true =>
   simp only [↓wA,↓wC,wB,cL,cK,b7,b8,b9,reduceIte,reduceCtorEq,aA,cA]
   rw [rF hr hpr hinv]
  | false =>
   simp only [↓wA,↓wC,wB,b7,reduceIte,reduceCtorEq]
   refine cP (by simp only [dX]; omega) ?_
   refine fF (cU _ rfl ⟨⟨rfl,rfl⟩,⟨rfl,rfl⟩,⟨rfl,rfl⟩,⟨rfl,rfl⟩,trivial⟩) hlt fun j s hj hs=>?_
   by_cases e:j=i
   ·subst e; rw [hr] at hs; injection hs with hs; rw [<- hs]; exact hpr
   ·exact hinv j s (by omega) hs
 ·intro hinv hd
  simp only [hd,↓wA,↓wC,wB,cL,cK,b7,b8,b9,reduceIte,reduceCtorEq,aA,cA]
  rw [pH fun j r hj=>hinv j r (cV hj) hj]
def fU (xs:List Cs) (id:Int):Int:=kN (fun x:Cs=>decide (x.i=id)) xs
theorem mP (xs:List Cs) (id:Int):(decide (fU xs id < 0)=true/\decide (0<=fU xs id)=false)\/∃ (i:Nat) (x:Cs),fU xs id=(i:Int)/\xs[i]?=some x/\x.i=id:=by
 by_cases h:0<=fU xs id
 ·obtain ⟨i,x,h1,h2,h3⟩:=aF3 h
  exact .inr ⟨i,x,h1,h2,by simpa using h3⟩
 ·exact .inl ⟨decide_eq_true (by omega),decide_eq_false h⟩
theorem aIs (x:Cs) (id:Int):Fn prog 186 [x.s,.ptr (.int .i64 id)] (fun rs=>rs=[.bool (decide (x.i=id))]):=by
 refine cW aRl [] ?_
 dsimp only [aRl,cT,c7]
 simp only [Cs.s,Cs.p]
 repeat' (first|(simp only [cY,cJ,↓wA,↓wC,wB,cL,cK,b7,b8,b9,reduceIte,reduceCtorEq,aA,cA])|((first|apply cG|apply cH|apply cF)<;>intro h<;>try simp only [h]))
theorem aAt (o:Off) (id:Int) (ho:o.ok0):Fn prog 145 [o.s,.int .i64 id] (fun rs=>rs=[.int .i64 (fU o.cs id)]):=by
 have h:=aDv (fun x=>decide (x.i=id)) 186 (.cons (.ptr (.int .i64 id)) .nil) o.cs rfl aU5 ho.1.1 (fun x _=>aIs x id)
 refine cW aRw [[1,0]] ?_
 dsimp only [aRw,cT,c7]
 repeat' (first|(simp only [aWu,aWw,cJ,↓wA,↓wC,wB,cL,cK,b7,b8,b9,reduceIte,reduceCtorEq,aA,cA])|((first|apply cG|apply cH|apply cF)<;>intro h<;>try simp only [h]))
 refine c8 (gI 1 rfl) ?_
 repeat' (first|(simp only [aWu,aWw,↓dF,cJ,cX,jB,jC,↓wA,↓wC,wB,cL,cK,b7,b8,b9,reduceIte,reduceCtorEq,aA,cA])|(refine cI (h) rfl rfl ?_)|(refine cM (h) rfl rfl ?_)|((first|apply cG|apply cH|apply cF)<;>intro h<;>try simp only [h]))
 all_goals rfl
theorem kU (o:Off) (id:Int) (ho:o.ok0):Fn prog 166 [o.s,.int .i64 id] (fun rs=>rs=[.int .i64 (fU o.cs id)]):=by
 have hlen:=ho.1.1
 refine cW aQ1 [] ?_
 dsimp only [aQ1,cT,c7]
 repeat' (first|(simp only [aWu,aWw,cJ,↓wA,↓wC,wB,cL,cK,b7,b8,b9,reduceIte,reduceCtorEq,aA,cA])|((first|apply cG|apply cH|apply cF)<;>intro h<;>try simp only [h]))
 refine dR o.cs.length (fun i:Nat=>⟨[(1,.d (.int .i64 id)),(2,.ptr 0 0 []),(5,.d (.int .i64 i))],[.box o.s]⟩) (fun i=>∀ j r,j < i->o.cs[j]?=some r->decide (r.i=id)=false) (cU _ rfl ⟨⟨rfl,rfl⟩,⟨rfl,rfl⟩,⟨rfl,rfl⟩,trivial⟩) (fun j r hj=>by omega) ?_ ?_
 ·intro i hlt hinv hd h0
  obtain ⟨r,hr⟩:=dP hlt
  cases h:decide (r.i=id) with
  | true =>
   repeat' (first|(simp only [cO,c6,hd,h0,h,aB,hr,aC,cJ,cX,jB,jC,p8,↓wA,↓wC,wB,cL,cK,b7,b8,b9,reduceIte,reduceCtorEq,aA,cA])|(refine cP (by simp only [dX]; omega) ?_)|((first|apply cG|apply cH|apply cF)<;>intro h<;>try simp only [h]))
   all_goals rw [fU,rF hr h hinv]
  | false =>
   repeat' (first|(simp only [cO,c6,hd,h0,h,aB,hr,aC,cJ,cX,jB,jC,p8,↓wA,↓wC,wB,cL,cK,b7,b8,b9,reduceIte,reduceCtorEq,aA,cA])|(refine cP (by simp only [dX]; omega) ?_)|((first|apply cG|apply cH|apply cF)<;>intro h<;>try simp only [h]))
   all_goals
    refine fF (cU _ rfl ⟨⟨rfl,rfl⟩,⟨rfl,rfl⟩,⟨rfl,rfl⟩,trivial⟩) hlt fun j s hj hs=>?_
    by_cases e:j=i
    ·subst e; rw [hr] at hs; injection hs with hs; rw [<- hs]; exact h
    ·exact hinv j s (by omega) hs
 ·intro hinv hd
  repeat' (first|(simp only [cO,hd,cX,cJ,jB,jC,↓wA,↓wC,wB,cL,cK,b7,b8,b9,reduceIte,reduceCtorEq,aA,cA])|((first|apply cG|apply cH|apply cF)<;>intro h<;>try simp only [h]))
  all_goals rw [fU,pH fun j r hj=>hinv j r (cV hj) hj]
theorem wS {o:Off} {i:Nat} {x:Cs} (h:dO o=true) (hr:o.cs[i]?=some x):gN x=true:=by
 simp only [dO,aQ] at h
 have:=aS.1 h.2 i (bH.2 (cV hr))
 rw [aBR hr,aQ] at this
 exact this.1
def aCz (o:Off) (id:Int):List D:=if dO o=true then (if 0<=fU o.cs id then [.str (txt (o.cs[(fU o.cs id).toNat]?.getD ⟨0,0,0,[]⟩)),.bool true] else [.str [],.bool false]) else [.str [],.bool false]
theorem lY (o:Off) (id:Int) (ho:o.ok0):Fn prog 113 [o.s,.int .i64 id] (fun rs=>rs=aCz o id):=by
 have hV:=jT o ho
 have hF:=aAt o id ho
 unfold aCz
 cases hv:dO o with
 | false =>
  rw [hv] at hV
  refine cW aDU [] ?_
  dsimp only [aDU,cT,c7]
  repeat' (first|(simp only [aWu,aWw,↓dF,cJ,↓wA,↓wC,wB,cL,cK,b7,b8,b9,reduceIte,reduceCtorEq,aA,cA])|(refine cI hF (by simp [dB,dI,aWv]) rfl ?_)|(refine cI hV (by simp [dB,dI]) rfl ?_)|((first|apply cG|apply cH|apply cF)<;>intro h<;>try simp only [h]))
  all_goals simp
 | true =>
  rw [hv] at hV
  rcases mP o.cs id with ⟨hn,hn'⟩|⟨i,x,hi,hr,_⟩
  ·have hn2:=of_decide_eq_false hn'
   refine cW aDU [] ?_
   dsimp only [aDU,cT,c7]
   repeat' (first|(simp only [hn,aWu,aWw,↓dF,cJ,↓wA,↓wC,wB,cL,cK,b7,b8,b9,reduceIte,reduceCtorEq,aA,cA])|(refine cI hF (by simp [dB,dI,aWv]) rfl ?_)|(refine cI hV (by simp [dB,dI,aWv]) rfl ?_)|((first|apply cG|apply cH|apply cF)<;>intro h<;>try simp only [h]))
   all_goals simp [hn2]
  ·rw [hi] at hF ⊢
   have h0:(0:Int)<=(i:Int):=by omega
   have hn:decide ((i:Int) < 0)=false:=decide_eq_false (by omega)
   have hC:=aFD x (wS hv hr)
   refine cW aDU [] ?_
   dsimp only [aDU,cT,c7]
   repeat' (first|(simp only [hn,h0,c6,aB,hr,aC,aWu,aWw,↓dF,↓iH,cX,jB,jC,cJ,↓wA,↓wC,wB,cL,cK,b7,b8,b9,reduceIte,reduceCtorEq,aA,cA])|(refine cI hF (by simp [dB,dI,aWv]) rfl ?_)|(refine cI hV (by simp [dB,dI,aWv]) rfl ?_)|(refine cI hC (by simp [dB,dI,aWE]) rfl ?_)|((first|apply cG|apply cH|apply cF)<;>intro h<;>try simp only [h]))
   all_goals simp [hr]
theorem aA0 (o:Off) (id:Int) (ho:o.ok0):Fn prog 127 [o.s,.int .i64 id] (fun rs=>rs=aCz o id):=by
 have hV:=fV o ho
 have hF:=kU o id ho
 unfold aCz
 cases hv:dO o with
 | false =>
  rw [hv] at hV
  refine cW aDM [] ?_
  dsimp only [aDM,cT,c7]
  repeat' (first|(simp only [aWu,aWw,↓dF,cJ,↓wA,↓wC,wB,cL,cK,b7,b8,b9,reduceIte,reduceCtorEq,aA,cA])|(refine cI hF (by simp [dB,dI,aWv]) rfl ?_)|(refine cI hV (by simp [dB,dI]) rfl ?_)|((first|apply cG|apply cH|apply cF)<;>intro h<;>try simp only [h]))
  all_goals simp
 | true =>
  rw [hv] at hV
  rcases mP o.cs id with ⟨hn,hn'⟩|⟨i,x,hi,hr,_⟩
  ·have hn2:=of_decide_eq_false hn'
   refine cW aDM [] ?_
   dsimp only [aDM,cT,c7]
   repeat' (first|(simp only [hn,aWu,aWw,↓dF,cJ,↓wA,↓wC,wB,cL,cK,b7,b8,b9,reduceIte,reduceCtorEq,aA,cA])|(refine cI hF (by simp [dB,dI,aWv]) rfl ?_)|(refine cI hV (by simp [dB,dI,aWv]) rfl ?_)|((first|apply cG|apply cH|apply cF)<;>intro h<;>try simp only [h]))
   all_goals simp [hn2]
  ·rw [hi] at hF ⊢
   have h0:(0:Int)<=(i:Int):=by omega
   have hn:decide ((i:Int) < 0)=false:=decide_eq_false (by omega)
   have hC:=aIl x (wS hv hr)
   refine cW aDM [] ?_
   dsimp only [aDM,cT,c7]
   repeat' (first|(simp only [hn,h0,c6,aB,hr,aC,aWu,aWw,↓dF,↓iH,cX,jB,jC,cJ,↓wA,↓wC,wB,cL,cK,b7,b8,b9,reduceIte,reduceCtorEq,aA,cA])|(refine cI hF (by simp [dB,dI,aWv]) rfl ?_)|(refine cI hV (by simp [dB,dI,aWv]) rfl ?_)|(refine cI hC (by simp [dB,dI,aWE]) rfl ?_)|((first|apply cG|apply cH|apply cF)<;>intro h<;>try simp only [h]))
   all_goals simp [hr]
def ups:Nat->Int->List Int
 | 0,_=>[]
 | n + 1,k=>k :: ups n (k + 1)
theorem vJ:∀ (n:Nat) (k:Int),(ups n k).length=n
 | 0,_=>rfl
 | n + 1,k=>by simp [ups,vJ n]
theorem aFi:∀ (n:Nat) (k:Int) (i:Nat),i < n->(ups n k)[i]?=some (k + i)
 | 0,_,i,h=>by omega
 | n + 1,k,0,_=>by simp [ups]
 | n + 1,k,i + 1,h=>by
  simp only [ups,List.getElem?_cons_succ]
  rw [aFi n (k + 1) i (by omega)]
  congr 1; omega
theorem aBQ:∀ (n:Nat) (k:Int),ups (n + 1) k=ups n k ++ [k + n]
 | 0,k=>by simp [ups]
 | n + 1,k=>by
  have h:=aBQ n (k + 1)
  rw [ups,h,ups,aK]
  congr 3; omega
theorem aPS {v:List Int} {i:Nat} {k:Int} (h:i < v.length):(ups i k ++ v.drop i).set i (k + i)=ups (i + 1) k ++ v.drop (i + 1):=by
 rw [aX _ _ (by rw [vJ]; omega),vJ,aO,aV h,a6,aBQ,aI]
 rfl
theorem aB8 {n:Int}:gU [] (iD n)=some (iD n):=rfl
theorem aBt {n:Int}:fL [] (iD n)=0:=rfl
theorem yZ {n:Int}:(iD n).size=1:=rfl
theorem aNb (v:List Int) (k:Int) (h0:0<=k) (h1:k<=1000000000000000) (hlen:v.length<=1048576):xR prog 118 false (.sl true 1 (dl iD v)) [.int .i64 k] (fun x' rs=>x'=.sl true 1 (dl iD (ups v.length k))/\rs=[.int .i64 (k + v.length)]):=by
 refine jV aRG [] ?_
 dsimp only [aRG,cT,c7]
 try simp only [↓wA,↓wC,wB,cL,cK,b7,b8,b9,reduceIte,reduceCtorEq,aA,cA]
 refine dZ (fun i:Nat=>⟨[(0,.own 0),(1,.d (.int .i64 (k + i))),(5,.d (.int .i64 i))],[.val (.sl true 1 (dl iD (ups i k ++ v.drop i)))]⟩)
  (fun i=>i<=v.length) (fun i=>v.length - i) 0
  (cU [] rfl ⟨⟨rfl,rfl⟩,⟨congrArg (fun n=>SV.d (.int .i64 n)) (by simp),rfl⟩,⟨rfl,rfl⟩,trivial⟩) (bL _) ?_
 intro i hi
 have hl:(ups i k ++ v.drop i).length=v.length:=by rw [aE,vJ,bA]; omega
 by_cases hlt:i < v.length
 ·obtain ⟨w,hw⟩:=dP (show i < (ups i k ++ v.drop i).length by omega)
  have hd:decide ((i:Int) < (v.length:Int))=true:=decide_eq_true (by omega)
  have h0:(0:Int)<=(i:Int):=by omega
  have hs:(dl iD (ups i k ++ v.drop i)).setN i (.int .i64 (k + i))=dl iD (ups (i + 1) k ++ v.drop (i + 1)):=(gV (f:=iD) _ i (k + i)).trans (by rw [aPS hlt])
  repeat' (first|(simp only [cO,hl,hd,c6,aB,hw,aC,h0,cJ,yZ,hs,↓wA,↓wC,wB,b7,b8,reduceIte,reduceCtorEq])|(refine cP (by simp only [dX]; omega) ?_)|((first|apply cG|apply cH|apply cF)<;>intro h<;>try simp only [h]))
  refine ⟨i + 1,cU [] rfl ⟨⟨rfl,rfl⟩,⟨?_,rfl⟩,⟨rfl,rfl⟩,trivial⟩,by omega,by omega⟩
  exact congrArg (fun n=>SV.d (.int .i64 n)) (by omega)
 ·have hd:decide ((i:Int) < (v.length:Int))=false:=decide_eq_false (by omega)
  have e:i=v.length:=by omega
  try simp only [cO,hl,hd,↓wA,↓wC,wB,cL,cK,b7,b8,b9,reduceIte,reduceCtorEq,aA,cA]
  rw [e,bB,aN]
  exact ⟨rfl,rfl⟩
end Go.Pe.Tryz
namespace Go.Pe.Tryz
open Go.Proofs.Tryz Go.Sort
def s9 (n:Nat) (k:Int):List (List UInt8):=(ups n k).map mtx
theorem uF (n:Nat) (k:Int):(s9 n k).length=n:=by rw [s9,aM,vJ]
theorem aM7 {n:Nat} {k:Int} {i:Nat} (h:i < n):(s9 n k)[i]?=some (mtx (k + i)):=by rw [s9,List.getElem?_map,aFi n k i h]; rfl
theorem aJ6 (n:Nat) (k:Int):s9 (n + 1) k=s9 n k ++ [mtx (k + n)]:=by simp only [s9,aBQ,bQ,a7,bX]
theorem aMa {L:List (List UInt8)} {i:Nat} {k:Int} (h:i < L.length):(s9 i k ++ L.drop i).set i (mtx (k + i))=s9 (i + 1) k ++ L.drop (i + 1):=by
 rw [aX _ _ (by rw [uF]; omega),uF,aO,aV h,a6,aJ6,aI]
 rfl
theorem aF5 (L:List (List UInt8)) (k:Int) (h0:0<=k) (h1:k<=10000000000000) (hlen:L.length<=1048576):xR prog 20 false (.sl true 1 (dl D.str L)) [.int .i64 k] (fun x' rs=>x'=.sl true 1 (dl D.str (s9 L.length k))/\rs=[.int .i64 (k + L.length)]):=by
 refine jV aUG [] ?_
 dsimp only [aUG,cT,c7]
 try simp only [↓wA,↓wC,wB,cL,cK,b7,b8,b9,reduceIte,reduceCtorEq,aA,cA]
 refine dZ (fun i:Nat=>⟨[(0,.own 0),(1,.d (.int .i64 (k + i))),(5,.d (.int .i64 i))],[.val (.sl true 1 (dl D.str (s9 i k ++ L.drop i)))]⟩)
  (fun i=>i<=L.length) (fun i=>L.length - i) 0
  (cU [] rfl ⟨⟨rfl,rfl⟩,⟨congrArg (fun n=>SV.d (.int .i64 n)) (by simp),rfl⟩,⟨rfl,rfl⟩,trivial⟩) (bL _) ?_
 intro i hi
 have hl:(s9 i k ++ L.drop i).length=L.length:=by rw [aE,uF,bA]; omega
 by_cases hlt:i < L.length
 ·obtain ⟨w,hw⟩:=dP (show i < (s9 i k ++ L.drop i).length by omega)
  have hd:decide ((i:Int) < (L.length:Int))=true:=decide_eq_true (by omega)
  have h0:(0:Int)<=(i:Int):=by omega
  have hm:=aAD (k + i) (by omega) (by omega)
  have hs:(dl D.str (s9 i k ++ L.drop i)).setN i (.str (mtx (k + i)))=dl D.str (s9 (i + 1) k ++ L.drop (i + 1)):=(gV (f:=D.str) _ i (mtx (k + i))).trans (by rw [aMa hlt])
  repeat' (first|(simp only [cO,hl,hd,c6,aB,hw,aC,h0,cJ,hs,↓wA,↓wC,wB,b7,b8,reduceIte,reduceCtorEq])|(refine cI (hm) rfl rfl ?_)|(refine cM (hm) rfl rfl ?_)|(refine cP (by simp only [dX]; omega) ?_)|((first|apply cG|apply cH|apply cF)<;>intro h<;>try simp only [h]))
  refine ⟨i + 1,cU [] rfl ⟨⟨rfl,rfl⟩,⟨?_,rfl⟩,⟨rfl,rfl⟩,trivial⟩,by omega,by omega⟩
  exact congrArg (fun n=>SV.d (.int .i64 n)) (by omega)
 ·have hd:decide ((i:Int) < (L.length:Int))=false:=decide_eq_false (by omega)
  have e:i=L.length:=by omega
  try simp only [cO,hl,hd,↓wA,↓wC,wB,cL,cK,b7,b8,b9,reduceIte,reduceCtorEq,aA,cA]
  rw [e,bB,aN]
  exact ⟨rfl,rfl⟩
theorem aGv (n:Nat) (k:Int) (h0:0<=k) (h1:k<=10000000000000) (hlen:n<=1048576):Fn prog 21 [.sl false 1 (dl D.str (s9 n k)),.int .i64 k] (fun rs=>rs=[.int .i64 (k + n)]):=by
 refine cW aTN [] ?_
 dsimp only [aTN,cT,c7]
 try simp only [↓wA,↓wC,wB,cL,cK,b7,b8,b9,reduceIte,reduceCtorEq,aA,cA]
 refine dZ (fun i:Nat=>⟨[(0,.d (.sl false 1 (dl D.str (s9 n k)))),(1,.d (.int .i64 (k + i))),(5,.d (.int .i64 i))],[]⟩)
  (fun i=>i<=n) (fun i=>n - i) 0
  (cU [] rfl ⟨⟨rfl,rfl⟩,⟨congrArg (fun n=>SV.d (.int .i64 n)) (by simp),rfl⟩,⟨rfl,rfl⟩,trivial⟩) (bL _) ?_
 intro i hi
 by_cases hlt:i < n
 ·have hw:=aM7 (k:=k) hlt
  have hd:decide ((i:Int) < (n:Int))=true:=decide_eq_true (by omega)
  have h0:(0:Int)<=(i:Int):=by omega
  have hm:=aAD (k + i) (by omega) (by omega)
  have ht:decide (mtx (k + i)=mtx (k + i))=true:=decide_eq_true rfl
  repeat' (first|(simp only [cO,uF,hd,c6,aB,hw,aC,h0,cJ,ht,↓wA,↓wC,wB,b7,b8,reduceIte,reduceCtorEq])|(refine cI (hm) rfl rfl ?_)|(refine cM (hm) rfl rfl ?_)|(refine cP (by simp only [dX]; omega) ?_)|((first|apply cG|apply cH|apply cF)<;>intro h<;>try simp only [h]))
  refine ⟨i + 1,cU [] rfl ⟨⟨rfl,rfl⟩,⟨?_,rfl⟩,⟨rfl,rfl⟩,trivial⟩,by omega,by omega⟩
  exact congrArg (fun n=>SV.d (.int .i64 n)) (by omega)
 ·have hd:decide ((i:Int) < (n:Int))=false:=decide_eq_false (by omega)
  have e:i=n:=by omega
  try simp only [cO,uF,hd,↓wA,↓wC,wB,cL,cK,b7,b8,b9,reduceIte,reduceCtorEq,aA,cA]
  all_goals rw [e]
end Go.Pe.Tryz
namespace Go.Pe.Tryz
open Go.Proofs.Tryz
def mC (k:Int) (x:Cs):Cs:=⟨k,k + 1,k + 2,ups x.h.length (k + 3)⟩
def sC (x:Cs):Int:=3 + x.h.length
def lG:Int->List Cs->List Cs
 | _,[]=>[]
 | k,x :: xs=>mC k x :: lG (k + sC x) xs
def jW:List Cs->Int
 | []=>0
 | x :: xs=>sC x + jW xs
theorem j8:∀ (k:Int) (xs:List Cs),(lG k xs).length=xs.length
 | _,[]=>rfl
 | k,x :: xs=>by simp [lG,j8]
theorem aCh:∀ (k:Int) (xs:List Cs) (x:Cs),lG k (xs ++ [x])=lG k xs ++ [mC (k + jW xs) x]
 | k,[],x=>by simp [lG,jW]
 | k,y :: ys,x=>by
  simp only [aK,lG,aCh,jW]
  rw [bV]
theorem aAg:∀ (xs:List Cs) (x:Cs),jW (xs ++ [x])=jW xs + sC x
 | [],x=>by simp [jW]
 | y :: ys,x=>by simp only [aK,jW,aAg]; omega
theorem pC:∀ (xs:List Cs),(∀ x∈xs,x.ok0)->0<=jW xs/\jW xs<=2000000 * xs.length
 | [],_=>by simp [jW]
 | x :: xs,h=>by
  have h1:=pC xs fun y hy=>h y (aY _ hy)
  have h2:=h x (aZ ..)
  unfold Cs.ok0 at h2
  simp only [jW,sC,aF]
  omega
theorem aBo {x:Cs} {dh:D} {k:Int}:kC [0] (x.p dh) (.int .i64 k)=Cs.p { x with i:=k } dh:=rfl
theorem aBf {x:Cs} {dh:D} {k:Int}:kC [1] (x.p dh) (.int .i64 k)=Cs.p { x with a:=k } dh:=rfl
theorem jF {x:Cs} {dh:D} {k:Int}:kC [2] (x.p dh) (.int .i64 k)=Cs.p { x with d:=k } dh:=rfl
theorem eQ {x:Cs} {dh u:D}:kC [3] (x.p dh) u=x.p u:=rfl
theorem nV {x:Cs} {dh:D}:fL [0] (x.p dh)=0:=rfl
theorem aBe {x:Cs} {dh:D}:fL [1] (x.p dh)=1:=rfl
theorem jK {x:Cs} {dh:D}:fL [2] (x.p dh)=2:=rfl
theorem fM {x:Cs} {dh:D}:fL [3] (x.p dh)=3:=rfl
theorem nP {x:Cs} {dh:D}:gU [0] (x.p dh)=some (.int .i64 x.i):=rfl
theorem aBr {x:Cs} {dh:D}:gU [1] (x.p dh)=some (.int .i64 x.a):=rfl
theorem jI {x:Cs} {dh:D}:gU [2] (x.p dh)=some (.int .i64 x.d):=rfl
theorem eJ {x:Cs} {dh:D}:gU [3] (x.p dh)=some dh:=rfl
theorem eL:∀ (xs:D) (i:Nat) (y z:D),(xs.setN i y).setN i z=xs.setN i z:=by
 intro xs
 induction xs with
 | cons a xs ih1 ih2=>intro i y z; cases i with
  | zero=>rfl
  | succ i=>simp only [D.setN]; rw [ih2]
 | _=>intro i y z; cases i<;>rfl
theorem aAA {xs:List Cs} {i:Nat} {x:Cs} (hr:xs[i]?=some x):xs.drop i=x :: xs.drop (i + 1):=by
 have hi:=cV hr
 rw [aV hi]
 rw [List.getElem?_eq_getElem hi] at hr
 injection hr with hr
 rw [hr]
theorem aFp (xs:List Cs) (k:Int) (h0:0<=k) (h1:k<=1000) (hlen:xs.length<=1048576) (hx:∀ x∈xs,x.ok0):xR prog 77 false (.sl true 4 (dl Cs.o xs)) [.int .i64 k] (fun x' rs=>x'=.sl true 4 (dl Cs.o (lG k xs))/\rs=[.int .i64 (k + jW xs)]):=by
 refine jV aTL [[1,0,1,0,0,1,0,0,1,1,1,1,1,1],[1,0,1,0,0,1,1]] ?_
 dsimp only [aTL,cT,c7]
 simp only [cO,↓wA,↓wC,wB,cL,cK,b7,b8,b9,reduceIte,reduceCtorEq,aA,cA]
 refine dR xs.length (fun i:Nat=>⟨[(0,.own 0),(1,.d (.int .i64 (k + jW (xs.take i)))),(5,.d (.int .i64 i))],[.val (.sl true 4 (dl Cs.o (lG k (xs.take i) ++ xs.drop i)))]⟩) (fun _=>True) (cU [] rfl ⟨⟨rfl,rfl⟩,⟨congrArg (fun n=>SV.d (.int .i64 n)) (by simp [jW]),rfl⟩,⟨rfl,rfl⟩,trivial⟩) trivial ?_ ?_
 ·intro i hlt _ hd hi0
  obtain ⟨x,hr⟩:=dP hlt
  have hL:(lG k (xs.take i) ++ xs.drop i)[i]?=some x:=by
   rw [List.getElem?_append_right (by rw [j8]; simp; omega),j8,aJ,aL (by omega),aO,List.getElem?_drop]; exact hr
  have hll:(lG k (xs.take i) ++ xs.drop i).length=xs.length:=by rw [aE,j8,aJ,bA]; omega
  have hb:=pC (xs.take i) (fun y hy=>hx y (aT hy))
  have hbl:(xs.take i).length<=1048576:=by simp; omega
  generalize hK:k + jW (xs.take i)=K
  have hK0:0<=K:=by omega
  have hK1:K<=10000000000000:=by omega
  have hgs:∀ {f:Cs->D} (y:D),((dl f (lG k (xs.take i) ++ xs.drop i)).setN i y).nth i=some y:=fun y=>by rw [oD,if_pos rfl,c6,hL]; rfl
  repeat' (first|(simp only [cO,hll,hd,hi0,c6,aB,hL,aC,cJ,hgs,lX,aBo,aBf,jF,eQ,nV,aBe,jK,fM,nP,aBr,jI,eJ,eL,Cs.o,↓wA,↓wC,wB,cL,cK,b7,b8,b9,reduceIte,reduceCtorEq,aA,cA])|(refine cP (by simp only [dX]; omega) ?_)|((first|apply cG|apply cH|apply cF)<;>intro h<;>try simp only [h]))
  have hxo:=hx x (aD hr)
  refine eI _ (eZ 0 (some i) [3] (es:=1) (xs:=dl iD x.h) rfl (by simp only [kE,hgs,bM,eJ])) fun v=>?_
  have m1:=aNb x.h (K + 1 + 1 + 1) (by omega) (by omega) hxo
  repeat' (first|(simp only [cO,hll,hd,hi0,c6,aB,hL,aC,cJ,hgs,lX,aBo,aBf,jF,eQ,nV,aBe,jK,fM,nP,aBr,jI,eJ,eL,dY,bC,↓wA,↓wC,wB,cL,cK,b7,b8,b9,reduceIte,reduceCtorEq,aA,cA])|(refine cP (by simp only [dX]; omega) ?_)|((first|apply cG|apply cH|apply cF)<;>intro h<;>try simp only [h]))
  refine mQ m1 rfl rfl rfl ?_
  repeat' (first|(simp only [cO,hll,hd,hi0,c6,aB,hL,aC,cJ,hgs,lX,aBo,aBf,jF,eQ,nV,aBe,jK,fM,nP,aBr,jI,eJ,eL,dY,bC,↓wA,↓wC,wB,cL,cK,b7,b8,b9,reduceIte,reduceCtorEq,aA,cA])|(refine cP (by simp only [dX]; omega) ?_)|((first|apply cG|apply cH|apply cF)<;>intro h<;>try simp only [h]))
  refine c8 (gA 0 2 1 (some i) [3] rfl (by simp only [kE,hgs,bM,eJ]) rfl rfl (by decide) rfl) ?_
  repeat' (first|(simp only [cO,hll,hd,hi0,c6,aB,hL,aC,cJ,hgs,lX,aBo,aBf,jF,eQ,nV,aBe,jK,fM,nP,aBr,jI,eJ,eL,dY,bC,↓wA,↓wC,wB,cL,cK,b7,b8,b9,reduceIte,reduceCtorEq,aA,cA])|(refine cP (by simp only [dX]; omega) ?_)|((first|apply cG|apply cH|apply cF)<;>intro h<;>try simp only [h]))
  have e2:K + 1 + 1=K + 2:=by omega
  have e3:K + 1 + 1 + 1=K + 3:=by omega
  have ex:Cs.p { i:=K,a:=K + 1,d:=K + 1 + 1,h:=x.h } (.sl true 1 (dl iD (ups x.h.length (K + 1 + 1 + 1))))=Cs.o (mC K x):=by
   rw [e3,e2]; rfl
  have el:(lG k (xs.take i) ++ xs.drop i).set i (mC K x)=lG k (xs.take (i + 1)) ++ xs.drop (i + 1):=by
   rw [aX _ _ (by rw [j8]; simp; omega),j8,aJ,aL (by omega),aO,aAA hr,a6,e7 hr,aCh,hK,aI]
   rfl
  have es:K + 1 + 1 + 1 + x.h.length=k + jW (xs.take (i + 1)):=by
   rw [e7 hr,aAg,<-bV,hK,sC]; omega
  rw [ex,gV,el,es]
  exact ⟨i + 1,(cU _ rfl ⟨⟨rfl,rfl⟩,⟨rfl,rfl⟩,⟨rfl,rfl⟩,trivial⟩),by omega,by omega⟩
 ·intro _ hd
  have e1:xs.take xs.length=xs:=aP
  have e2:(lG k (xs.take xs.length) ++ xs.drop xs.length)=lG k xs:=by rw [e1,bB,aN]
  rw [e2,e1]
  simp only [cO,j8,hd,↓wA,↓wC,wB,cL,cK,b7,b8,b9,reduceIte,reduceCtorEq,aA,cA]
def mO (k:Int) (o:Off):Off:=⟨o.day,lG k o.cs,o.kept,o.moved,s9 o.led.length (k + jW o.cs)⟩
theorem aDp (o:Off) (k:Int) (h0:0<=k) (h1:k<=1000) (ho:o.ok0):xR prog 42 false o.o [.int .i64 k] (fun x' rs=>x'=(mO k o).o/\rs=[.int .i64 (k + jW o.cs + o.led.length)]):=by
 have hb:=pC o.cs ho.1.2
 have hbl:=ho.1.1
 have m1:=aFp o.cs k h0 h1 ho.1.1 ho.1.2
 have m2:=aF5 o.led (k + jW o.cs) (by omega) (by omega) ho.2.1
 refine jV aUj [[1,1,1,1],[1,1,1,1],[1,1,1,1],[0],[0],[0]] ?_
 dsimp only [aUj,cT,c7]
 simp only [Off.o,dU]
 refine eI _ (eZ 0 none [1] (es:=4) (xs:=dl Cs.o o.cs) rfl rfl) fun v1=>?_
 simp only [dY,↓wA,↓wC,wB,cL,cK,b7,b8,b9,reduceIte,reduceCtorEq,aA,cA]
 refine eI _ (eZ 0 none [4] (es:=1) (xs:=dl D.str o.led) rfl rfl) fun v2=>?_
 simp only [dY,↓wA,↓wC,wB,b7,b8,reduceIte,reduceCtorEq]
 refine c8 (aVV 0 0 rfl rfl rfl) ?_
 repeat' (first|(simp only [cJ,wB,b8,reduceIte])|((first|apply cG|apply cH|apply cF)<;>intro h<;>try simp only [h]))
 refine mQ m1 rfl rfl rfl ?_
 repeat' (first|(simp only [cJ,↓wA,↓wC,wB,cL,cK,b7,b8,b9,reduceIte,reduceCtorEq,aA,cA])|((first|apply cG|apply cH|apply cF)<;>intro h<;>try simp only [h]))
 refine mQ m2 rfl rfl rfl ?_
 repeat' (first|(simp only [cJ,↓wA,↓wC,wB,cL,cK,b7,b8,b9,reduceIte,reduceCtorEq,aA,cA])|((first|apply cG|apply cH|apply cF)<;>intro h<;>try simp only [h]))
 refine c8 (aSu 0 0 rfl rfl rfl) ?_
 simp only [dY,↓wA,↓wC,wB,cL,cK,b7,b8,b9,reduceIte,reduceCtorEq,aA,cA]
 refine c8 (gA 0 2 1 none [1] rfl rfl rfl rfl (by decide) rfl) ?_
 simp only [dY,↓wA,↓wC,wB,cL,cK,b7,b8,b9,reduceIte,reduceCtorEq,aA,cA]
 refine c8 (gA 0 4 3 none [4] rfl rfl rfl rfl (by decide) rfl) ?_
 simp only [dY,wB,reduceIte]
 rfl
end Go.Pe.Tryz
