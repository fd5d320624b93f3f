/- Steps of an office: a step with a case; walked; Steps of an office: a step; walked; Steps of an office: the program's StepOffice; walked; Runs of steps of an office: the program's RunOffice; walked; Steps of an office: the reference's own copy; walked; Steps of an office: the reference's l25Step, l25Enter; walked; Steps of an office: the reference's l25Release; walked; A party heard, walked; A party heard as the reference has it, walked; Steps of an office: the reference's l25Act; walked -/
import Derived.Test.YtjmobminbckhjabGreatDoorW3
import Derived.Test.YtjmobminbckhjabGreatDoorPeD
import Derived.Test.YtjmobminbckhjabGreatDoorMc1
import Derived.Test.YtjmobminbckhjabGreatDoorMc2
import Derived.Test.YtjmobminbckhjabGreatDoorMc3
import Derived.Test.YtjmobminbckhjabGreatDoorMc4
import Derived.Test.YtjmobminbckhjabGreatDoorMc5
import Derived.Test.YtjmobminbckhjabGreatDoorMc6
import Derived.Test.YtjmobminbckhjabGreatDoorMc7
import Derived.Test.YtjmobminbckhjabGreatDoorMc8
set_option maxRecDepth 100000
set_option maxHeartbeats 4000000
set_option linter.all false
open And renaming intro->aE
open Bool renaming false_and->aI, true_and->aK, or_false->a7, or_true->a8
open Int renaming toNat_natCast->aB
open List renaming cons_append->aC, nil_append->aD, mem_of_getElem?->aG, take_length->aH, length_singleton->aM, length_append->aO, length_take->aQ, length_drop->aR, mem_of_mem_eraseIdx->aS, length_eraseIdx_le->aT, mem_append->aU, set_append_right->aV, length_filter_le->aW, mem_map->aX, mem_singleton->aY, append_assoc->a6
open Nat renaming reduceBEq->aA, min_eq_left->aJ, reduceEqDiff->bA, reduceAdd->bB, reduceSub->bC, reduceLT->bD
open Option renaming map_some->aF, getD_some->aL, bind_some->aN, filter->aP, isSome_some->aZ
namespace Go.Pe.Tryz
open Go.Proofs.Tryz
def lG (k id a v:Int):D:=.st (.cons (.int .i64 k) (.cons (.int .i64 id) (.cons (.int .i64 a) (.cons (.int .i64 v) .nil))))
def aQl (r:Option Off) (x':D) (rs:List D):Prop:=rs=[.bool r.isSome]/\∀ o',r=some o'->x'=o'.o
theorem nE {r:Option Off} {x':D} (h:r=none):aQl r x' [.bool false]:=⟨by rw [h]; rfl,fun o' e=>by rw [h] at e; cases e⟩
theorem rZ {r:Option Off} {x':D} {o':Off} (h:r=some o') (hx:x'=o'.o):aQl r x' [.bool true]:=⟨by rw [h]; rfl,fun o'' e=>by rw [h] at e; injection e with e; rw [<- e,hx]⟩
def aAs (o:Off) (i:Nat) (x:Cs) (k v:Int):Option Off :=
 if k=3 then (if x.h.contains v=true then none else some { o with cs:=o.cs.set i { x with h:=lZ v x.h } })
 else if k=5 then (if 1<=v then some { o with cs:=o.cs.set i { x with d:=x.d + v } } else none)
 else if k=6 then (if v=0/\eU o x=true then some (mP o i x) else none)
 else none
theorem aH5 (o:Off) (i:Nat) (x:Cs) (k id a v:Int) (ho:dV o=true) (hr:o.cs[i]?=some x) (hv0:0<=v) (hv1:v<=20000):wQ prog 148 true o.o [.int .i64 i,lG k id a v] (aQl (aAs o i x k v)):=by
 have hp:=eT ho
 have hx:=fT (hp.2.2.2.2.2.2.2.2.2 x (aG hr))
 have hil:=c6 hr
 have hi0:(0:Int)<=(i:Int):=by omega
 have hgn:(dl Cs.o o.cs).nth i=some (x.p (.sl true 1 (dl iD x.h))):=by rw [dC,hr]; rfl
 have hgs:∀ (y:D),((dl Cs.o o.cs).setN i y).nth i=some y:=fun y=>by rw [rB,if_pos rfl,hgn]; rfl
 have hxo:x.h.length<=1048576:=by omega
 have hdl:(1:Int)<=o.cs.length:=by omega
 cases h3:decide (k=3) with
 | true =>
  have h3':=of_decide_eq_true h3
  have hC:=aAI x.h v hxo
  have hC':Fn prog 151 [.sl false 1 (dl iD x.h).unown,.int .i64 v] (fun rs=>rs=[.bool (x.h.contains v)]):=by rw [dW]; exact hC
  have hO:aAs o i x k v=if x.h.contains v=true then none else some { o with cs:=o.cs.set i { x with h:=lZ v x.h } }:=if_pos h3'
  refine gF aCo [[1,1,0,1,0,1,0,1,1,1,0],[1,1,0,1,0,1,0,1,1,1,0],[1,1,0,1,0,1,0,1,1,0],[1,1,0,1,0,1,0,0,0],[1,0]] ?_
  dsimp only [aCo,cY,dD]
  simp only [Off.o,d5,lG]
  repeat' (first|(simp only [cM,↓wA,↓wC,wB,cQ,cP,bA,bB,bC,reduceIte,reduceCtorEq,aA,bD])|((first|apply cJ|apply cK|apply cI)<;>intro h<;>try simp only [h]))
  refine fG _ (f8 0 none [1] (es:=4) (xs:=dl Cs.o o.cs) rfl rfl) fun v1=>?_
  simp only [eS,↓wA,↓wC,wB,cQ,cP,bA,bB,bC,reduceIte,reduceCtorEq,aA,bD]
  repeat' (first|(simp only [hi0,aB,hgn,hgs,h3,cM,↓wA,↓wC,wB,cQ,cP,bA,bB,bC,reduceIte,reduceCtorEq,aA,bD])|((first|apply cJ|apply cK|apply cI)<;>intro h<;>try simp only [h]))
  refine fG _ (f8 2 (some i) [3] (es:=1) (xs:=dl iD x.h) rfl (by simp only [lN,hgn,aN,fU])) fun v2=>?_
  simp only [eS,hgn,aL,fV,↓wA,↓wC,wB,cQ,cP,bA,bB,bC,reduceIte,reduceCtorEq,aA,bD]
  cases hc:x.h.contains v with
  | true =>
   rw [hc] at hC' hO
   repeat' (first|(simp only [hi0,aB,hgn,hgs,h3,cM,fW,iE,fU,fV,↓wA,↓wC,wB,cQ,cP,bA,bB,bC,reduceIte,reduceCtorEq,aA,bD])|(refine cO (hC') rfl rfl ?_)|(refine cR (hC') rfl rfl ?_)|((first|apply cJ|apply cK|apply cI)<;>intro h<;>try simp only [h]))
   all_goals exact nE (by rw [hO]; rfl)
  | false =>
   rw [hc] at hC' hO
   have hnv:v ∉ x.h:=fun h=>by rw [List.contains_iff_mem.2 h] at hc; cases hc
   have hS:=aSl v x.h (aLy hx.2.2.2.2.2.2.2.2) hnv (by omega)
   repeat' (first|(simp only [hi0,aB,hgn,hgs,h3,cM,fW,iE,fU,fV,nC,nB,m9,g7,cU,↓wA,↓wC,wB,cQ,cP,bA,bB,bC,reduceIte,reduceCtorEq,aA,bD])|(refine cO (hC') rfl rfl ?_)|(refine cR (hC') rfl rfl ?_)|(refine dN ?_)|(with_reducible refine cW ?_ ?_; focus (simp; done))|(with_reducible refine cW ?_ ?_; focus omega)|((first|apply cJ|apply cK|apply cI)<;>intro h<;>try simp only [h]))
   refine fG _ (f8 2 (some i) [3] (es:=1) (xs:=dl iD (x.h ++ [v])) rfl (by simp only [lN,hgs,aN,fU])) fun v3=>?_
   simp only [eS,hgs,aL,fV,fW,↓wA,↓wC,wB,cQ,cP,bA,bB,bC,reduceIte,reduceCtorEq,aA,bD]
   repeat' (first|(simp only [hi0,aB,hgn,hgs,h3,cM,fW,iE,fU,fV,nC,nB,m9,g7,cU,↓wA,↓wC,wB,cQ,cP,bA,bB,bC,reduceIte,reduceCtorEq,aA,bD])|((first|apply cJ|apply cK|apply cI)<;>intro h<;>try simp only [h]))
   refine yB (bx:=false) (r:=7) hS rfl rfl rfl ?_
   repeat' (first|(simp only [hi0,aB,hgn,hgs,h3,cM,fW,iE,fU,fV,nC,nB,m9,g7,cU,↓wA,↓wC,wB,cQ,cP,bA,bB,bC,reduceIte,reduceCtorEq,aA,bD])|((first|apply cJ|apply cK|apply cI)<;>intro h<;>try simp only [h]))
   refine dF (i7 2 8 7 (some i) [3] rfl (by simp only [lN,hgs,aN,fU]) rfl rfl (by decide) rfl) ?_
   simp only [eS,hgs,aL,fV,fW,↓wA,↓wC,wB,cQ,cP,bA,bB,bC,reduceIte,reduceCtorEq,aA,bD]
   refine dF (i7 0 3 2 none [1] rfl rfl rfl rfl (by decide) rfl) ?_
   simp only [eS,↓wA,↓wC,wB,cQ,cP,bA,bB,bC,reduceIte,reduceCtorEq,aA,bD]
   repeat' (first|(simp only [hi0,aB,hgn,hgs,h3,cM,fW,iE,fU,fV,nC,nB,m9,g7,cU,↓wA,↓wC,wB,cQ,cP,bA,bB,bC,reduceIte,reduceCtorEq,aA,bD])|((first|apply cJ|apply cK|apply cI)<;>intro h<;>try simp only [h]))
   have e:x.p (.sl true 1 (dl iD (lZ v x.h)))=Cs.o { x with h:=lZ v x.h }:=rfl
   all_goals refine rZ (o':={ o with cs:=o.cs.set i { x with h:=lZ v x.h } }) (by rw [hO]; rfl) ?_
   rw [e,kZ]; rfl
 | false =>
  have h3':=of_decide_eq_false h3
  cases h5:decide (k=5) with
  | true =>
   have h5':=of_decide_eq_true h5
   have hO:aAs o i x k v=if 1<=v then some { o with cs:=o.cs.set i { x with d:=x.d + v } } else none:=by unfold aAs; rw [if_neg h3',if_pos h5']
   refine gF aCo [[1,1,0,1,0,1,1,1,0,1,1],[1,0]] ?_
   dsimp only [aCo,cY,dD]
   simp only [Off.o,d5,lG]
   repeat' (first|(simp only [cM,↓wA,↓wC,wB,cQ,cP,bA,bB,bC,reduceIte,reduceCtorEq,aA,bD])|((first|apply cJ|apply cK|apply cI)<;>intro h<;>try simp only [h]))
   refine fG _ (f8 0 none [1] (es:=4) (xs:=dl Cs.o o.cs) rfl rfl) fun v1=>?_
   simp only [eS,↓wA,↓wC,wB,cQ,cP,bA,bB,bC,reduceIte,reduceCtorEq,aA,bD]
   repeat' (first|(simp only [hi0,aB,hgn,hgs,h3,cM,fW,iE,fU,fV,nC,nB,m9,g7,cU,h5,↓wA,↓wC,wB,cQ,cP,bA,bB,bC,reduceIte,reduceCtorEq,aA,bD])|(refine dN ?_)|(with_reducible refine cV ?_ ?_; focus (simp only [eA]; omega))|((first|apply cJ|apply cK|apply cI)<;>intro h<;>try simp only [h]))
   refine dF (i7 0 3 2 none [1] rfl rfl rfl rfl (by decide) rfl) ?_
   simp only [eS,↓wA,↓wC,wB,cQ,cP,bA,bB,bC,reduceIte,reduceCtorEq,aA,bD]
   repeat' (first|(simp only [hi0,aB,hgn,hgs,h3,cM,fW,iE,fU,fV,nC,nB,m9,g7,cU,↓wA,↓wC,wB,cQ,cP,bA,bB,bC,reduceIte,reduceCtorEq,aA,bD])|((first|apply cJ|apply cK|apply cI)<;>intro h<;>try simp only [h]))
   have e:Cs.p { i:=x.i,a:=x.a,d:=x.d + v,h:=x.h } (.sl true 1 (dl iD x.h))=Cs.o { x with d:=x.d + v }:=rfl
   by_cases hv:1<=v
   ·rw [decide_eq_true hv]
    all_goals refine rZ (o':={ o with cs:=o.cs.set i { x with d:=x.d + v } }) (by rw [hO,if_pos hv]) ?_
    rw [e,kZ]; rfl
   ·rw [decide_eq_false hv]
    exact nE (by rw [hO,if_neg hv])
  | false =>
   have h5':=of_decide_eq_false h5
   cases h6:decide (k=6) with
   | true =>
    have h6':=of_decide_eq_true h6
    have hO:aAs o i x k v=if v=0/\eU o x=true then some (mP o i x) else none:=by unfold aAs; rw [if_neg h3',if_neg h5',if_pos h6']
    refine gF aCo [[1,1,0,1,0,1,1,1,1,1,0,0],[1,0]] ?_
    dsimp only [aCo,cY,dD]
    simp only [Off.o,d5,lG]
    repeat' (first|(simp only [cM,↓wA,↓wC,wB,cQ,cP,bA,bB,bC,reduceIte,reduceCtorEq,aA,bD])|((first|apply cJ|apply cK|apply cI)<;>intro h<;>try simp only [h]))
    refine fG _ (f8 0 none [1] (es:=4) (xs:=dl Cs.o o.cs) rfl rfl) fun v1=>?_
    simp only [eS,↓wA,↓wC,wB,cQ,cP,bA,bB,bC,reduceIte,reduceCtorEq,aA,bD]
    repeat' (first|(simp only [hi0,aB,hgn,hgs,h3,cM,fW,iE,fU,fV,nC,nB,m9,g7,cU,h5,h6,↓wA,↓wC,wB,cQ,cP,bA,bB,bC,reduceIte,reduceCtorEq,aA,bD])|(with_reducible refine cV ?_ ?_; focus (simp only [eA]; omega))|((first|apply cJ|apply cK|apply cI)<;>intro h<;>try simp only [h]))
    refine dF (i7 0 3 2 none [1] rfl rfl rfl rfl (by decide) rfl) ?_
    simp only [eS,↓wA,↓wC,wB,cQ,cP,bA,bB,bC,reduceIte,reduceCtorEq,aA,bD]
    by_cases hv:v=0
    ·have hvd:decide (v=0)=true:=decide_eq_true hv
     repeat' (first|(simp only [hi0,aB,hgn,hgs,h3,cM,fW,iE,fU,fV,nC,nB,m9,g7,cU,hvd,↓wA,↓wC,wB,cQ,cP,bA,bB,bC,reduceIte,reduceCtorEq,aA,bD])|((first|apply cJ|apply cK|apply cI)<;>intro h<;>try simp only [h]))
     refine dM (bx:=true) (r:=0) (aSq o i x ho hr) rfl rfl rfl ?_
     rintro x' _ ⟨rfl,hy⟩
     repeat' (first|(simp only [hi0,aB,hgn,hgs,h3,cM,fW,iE,fU,fV,nC,nB,m9,g7,cU,hvd,↓wA,↓wC,wB,cQ,cP,bA,bB,bC,reduceIte,reduceCtorEq,aA,bD])|((first|apply cJ|apply cK|apply cI)<;>intro h<;>try simp only [h]))
     cases hB:eU o x with
     | true=>exact rZ (by rw [hO,if_pos ⟨hv,hB⟩]) (hy hB)
     | false=>exact nE (by rw [hO,if_neg (fun h=>by rw [hB] at h; cases h.2)])
    ·have hvd:decide (v=0)=false:=decide_eq_false hv
     repeat' (first|(simp only [hi0,aB,hgn,hgs,h3,cM,fW,iE,fU,fV,nC,nB,m9,g7,cU,hvd,↓wA,↓wC,wB,cQ,cP,bA,bB,bC,reduceIte,reduceCtorEq,aA,bD])|((first|apply cJ|apply cK|apply cI)<;>intro h<;>try simp only [h]))
     all_goals exact nE (by rw [hO,if_neg (fun h=>hv h.1)])
   | false =>
    have h6':=of_decide_eq_false h6
    have hO:aAs o i x k v=none:=by unfold aAs; rw [if_neg h3',if_neg h5',if_neg h6']
    refine gF aCo [[1,0]] ?_
    dsimp only [aCo,cY,dD]
    simp only [Off.o,d5,lG]
    repeat' (first|(simp only [cM,↓wA,↓wC,wB,cQ,cP,bA,bB,bC,reduceIte,reduceCtorEq,aA,bD])|((first|apply cJ|apply cK|apply cI)<;>intro h<;>try simp only [h]))
    refine fG _ (f8 0 none [1] (es:=4) (xs:=dl Cs.o o.cs) rfl rfl) fun v1=>?_
    simp only [eS,↓wA,↓wC,wB,cQ,cP,bA,bB,bC,reduceIte,reduceCtorEq,aA,bD]
    repeat' (first|(simp only [hi0,aB,hgn,hgs,h3,cM,fW,iE,fU,fV,nC,nB,m9,g7,cU,h5,h6,↓wA,↓wC,wB,cQ,cP,bA,bB,bC,reduceIte,reduceCtorEq,aA,bD])|(with_reducible refine cV ?_ ?_; focus (simp only [eA]; omega))|((first|apply cJ|apply cK|apply cI)<;>intro h<;>try simp only [h]))
    all_goals exact nE hO
theorem aDm:∀ (xs:List D) (i:Nat) (y:D),(kN xs).setN i y=kN (xs.set i y)
 | [],i,y=>by cases i<;>rfl
 | x :: xs,0,y=>rfl
 | x :: xs,i + 1,y=>by
  have:=aDm xs i y
  simp only [kN,D.setN,List.set_cons_succ,this]
theorem dZ {xs:D}:(D.st xs).isStB=true:=rfl
theorem aOJ (o:Off) (id a v:Int) (ho:dV o=true) (hv0:0<=v) (hv1:v<=20000):wQ prog 104 true o.o [lG 2 id a v] (aQl (mkO o 2 id a v)):=by
 have hp:=eT ho
 have ho0:=fI ho
 have hA:=aBF o id ho0
 have hM:mkO o 2 id a v=if 0<=gM o.cs id then none else some { o with cs:=jQ ⟨id,a,o.day + v,[]⟩ o.cs }:=if_pos rfl
 have h2:decide ((2:Int)=2)=true:=rfl
 cases hf:decide (0<=gM o.cs id) with
 | true =>
  have hf':=of_decide_eq_true hf
  rw [if_pos hf'] at hM
  refine gF vV [] ?_
  dsimp only [vV,cY,dD]
  simp only [Off.o,d5,lG]
  repeat' (first|(simp only [cM,dZ,hf,↓wA,↓wC,wB,cQ,cP,bA,bB,bC,reduceIte,reduceCtorEq,aA,bD])|(refine cR hA (congrArg (fun d:D=>some [d,.int .i64 id]) (aZI o)) rfl ?_)|((first|apply cJ|apply cK|apply cI)<;>intro h<;>try simp only [h]))
  all_goals exact nE hM
 | false =>
  have hf':=of_decide_eq_false hf
  rw [if_neg hf'] at hM
  refine gF vV [[1,1,0,0,1,0,1,1,1,1,0],[1,1,0,0,1,0,1,1,1,1,0],[1,1,0,0,1,0,1,1,1,1,0],[1,1,0,0,1,0,1,0]] ?_
  dsimp only [vV,cY,dD]
  simp only [Off.o,d5,lG]
  repeat' (first|(simp only [cM,dZ,hf,↓wA,↓wC,wB,cQ,cP,bA,bB,bC,reduceIte,reduceCtorEq,aA,bD])|(refine cR hA (congrArg (fun d:D=>some [d,.int .i64 id]) (aZI o)) rfl ?_)|((first|apply cJ|apply cK|apply cI)<;>intro h<;>try simp only [h]))
  refine fG _ (f8 0 none [1] (es:=4) (xs:=dl Cs.o o.cs) rfl rfl) fun v1=>?_
  simp only [eS,↓wA,↓wC,wB,cQ,cP,bA,bB,bC,reduceIte,reduceCtorEq,aA,bD]
  repeat' (first|(simp only [cM,↓wA,↓wC,wB,cQ,cP,bA,bB,bC,reduceIte,reduceCtorEq,aA,bD])|((first|apply cJ|apply cK|apply cI)<;>intro h<;>try simp only [h]))
  refine eM (fun j:Nat=>⟨[(0,.ptr 0 0 []),(3,.ptr 1 0 []),(6,.d (.int .i64 j))],[.box (d5 o (.lnk 3 v1) (.sl true 1 (dl D.str o.led))),.box (lG 2 id a v),.val (.sl true 4 (dl Cs.o o.cs)),.tag 2 v1]⟩) (fun j=>j<=o.cs.length/\∀ m x,m < j->o.cs[m]?=some x->x.i < id) (fun j=>o.cs.length - j) 0 (cX _ rfl ⟨⟨rfl,rfl⟩,⟨rfl,rfl⟩,⟨rfl,rfl⟩,trivial⟩) ⟨by omega,fun m x hm=>by omega⟩ ?_
  rintro j ⟨hj1,hj2⟩
  simp only [d5,lG]
  have hcm:∀ x:Cs,Cs.o x=x.p (.sl true 1 (dl iD x.h)):=fun _=>rfl
  have hj0:(0:Int)<=(j:Int):=by omega
  by_cases hlt:j < o.cs.length
  ·obtain ⟨x,hr⟩:=dS hlt
   have hd:decide ((j:Int) < (o.cs.length:Int))=true:=decide_eq_true (by omega)
   cases hx:decide (x.i < id) with
   | true =>
    repeat' (first|(simp only [cM,cU,dC,hd,hx,hr,hj0,hcm,aB,aF,x7,xT,↓wA,↓wC,wB,cQ,cP,bA,bB,bC,reduceIte,reduceCtorEq,aA,bD])|(with_reducible refine cV ?_ ?_; focus (simp only [eA]; omega))|((first|apply cJ|apply cK|apply cI)<;>intro h<;>try simp only [h]))
    refine ⟨j + 1,(cX _ rfl ⟨⟨rfl,rfl⟩,⟨rfl,rfl⟩,⟨rfl,rfl⟩,trivial⟩),⟨by omega,fun m y hm hy=>?_⟩,by omega⟩
    by_cases e:m=j
    ·subst e
     rw [hr] at hy
     injection hy with hy
     rw [<- hy]; exact of_decide_eq_true hx
    ·exact hj2 m y (by omega) hy
   | false =>
    have hpl:sV id o.cs=j:=tN o.cs j hj1 hj2 (fun y hy=>by rw [hr] at hy; injection hy with hy; rw [<- hy]; exact of_decide_eq_false hx)
    repeat' (first|(simp only [cM,cU,dC,hd,hx,hr,hj0,hcm,aB,aF,x7,xT,↓wA,↓wC,wB,cQ,cP,bA,bB,bC,reduceIte,reduceCtorEq,aA,bD])|(refine dN ?_)|(with_reducible refine cV ?_ ?_; focus (simp only [eA]; omega))|((first|apply cJ|apply cK|apply cI)<;>intro h<;>try simp only [h]))
    have hpe:jQ ⟨id,a,o.day + v,[]⟩ o.cs=o.cs.take j ++ ⟨id,a,o.day + v,[]⟩ :: o.cs.drop j:=by unfold jQ; rw [hpl]
    refine qW _ (f8 5 (some 0) [3] (es:=1) (xs:=.nil) rfl rfl) fun v2=>?_
    simp only [eS,D.nth,aL,j8,D.setN,↓wA,↓wC,wB,cQ,cP,bA,bB,bC,reduceIte,reduceCtorEq,aA,bD]
    refine fK 5 ?_
    simp only [m8,lA,kD,D.unown,↓wA,↓wC,wB,cQ,cP,bA,bB,bC,reduceIte,reduceCtorEq,aA,bD]
    have hI:=aC5 (o.cs.map Cs.o) (Cs.p ⟨id,a,o.day + v,[]⟩ (.lnk 7 v2)) (fun d hd=>by obtain ⟨y,_,rfl⟩:=aX.1 hd; rfl) rfl j (by simpa using hj1) (by simp; omega)
    refine dM (bx:=false) (r:=2) hI rfl rfl rfl ?_
    rintro _ _ ⟨⟨u,rfl⟩,rfl⟩
    have hnth:(kN ((o.cs.map Cs.o).take j ++ Cs.p ⟨id,a,o.day + v,[]⟩ (.lnk 7 v2) :: (o.cs.map Cs.o).drop j)).nth j=some (Cs.p ⟨id,a,o.day + v,[]⟩ (.lnk 7 v2)):=by
     rw [r8,List.getElem?_append_right (by simp; omega)]
     simp [aJ hj1]
    have hset:(kN ((o.cs.map Cs.o).take j ++ Cs.p ⟨id,a,o.day + v,[]⟩ (.lnk 7 v2) :: (o.cs.map Cs.o).drop j)).setN j (Cs.p ⟨id,a,o.day + v,[]⟩ (.sl true 1 .nil))=dl Cs.o (jQ ⟨id,a,o.day + v,[]⟩ o.cs):=by
     rw [aDm,aV _ _ (by simp; omega),hpe]
     simp [aJ hj1,dl]
     rfl
    generalize kN ((o.cs.map Cs.o).take j ++ Cs.p ⟨id,a,o.day + v,[]⟩ (.lnk 7 v2) :: (o.cs.map Cs.o).drop j)=NL at hnth hset
    repeat' (first|(simp only [cM,↓wA,↓wC,wB,cQ,cP,bA,bB,bC,reduceIte,reduceCtorEq,aA,bD])|((first|apply cJ|apply cK|apply cI)<;>intro h<;>try simp only [h]))
    refine fG _ (f8 0 none [1] (es:=4) (xs:=NL) rfl rfl) fun v3=>?_
    simp only [eS,↓wA,↓wC,wB,cQ,cP,bA,bB,bC,reduceIte,reduceCtorEq,aA,bD]
    refine dF (i7 9 7 6 (some j) [3] rfl (by simp only [lN,hnth,aN,fU]) rfl rfl (by decide) rfl) ?_
    simp only [eS,hnth,aL,fV,hset,↓wA,↓wC,wB,cQ,cP,bA,bB,bC,reduceIte,reduceCtorEq,aA,bD]
    refine dF (i7 0 10 9 none [1] rfl rfl rfl rfl (by decide) rfl) ?_
    simp only [eS,↓wA,↓wC,wB,cQ,cP,bA,bB,bC,reduceIte,reduceCtorEq,aA,bD]
    repeat' (first|(simp only [cM,↓wA,↓wC,wB,cQ,cP,bA,bB,bC,reduceIte,reduceCtorEq,aA,bD])|((first|apply cJ|apply cK|apply cI)<;>intro h<;>try simp only [h]))
    all_goals exact rZ hM rfl
  ·have e:j=o.cs.length:=by omega
   have hd:decide ((j:Int) < (o.cs.length:Int))=false:=decide_eq_false (by omega)
   have hpl:sV id o.cs=j:=tN o.cs j hj1 hj2 (fun y hy=>by have:=c6 hy; omega)
   repeat' (first|(simp only [cM,cU,dC,hd,hj0,hcm,aB,aF,x7,xT,↓wA,↓wC,wB,cQ,cP,bA,bB,bC,reduceIte,reduceCtorEq,aA,bD])|(refine dN ?_)|(with_reducible refine cV ?_ ?_; focus (simp only [eA]; omega))|((first|apply cJ|apply cK|apply cI)<;>intro h<;>try simp only [h]))
   have hpe:jQ ⟨id,a,o.day + v,[]⟩ o.cs=o.cs.take j ++ ⟨id,a,o.day + v,[]⟩ :: o.cs.drop j:=by unfold jQ; rw [hpl]
   refine qW _ (f8 5 (some 0) [3] (es:=1) (xs:=.nil) rfl rfl) fun v2=>?_
   simp only [eS,D.nth,aL,j8,D.setN,↓wA,↓wC,wB,cQ,cP,bA,bB,bC,reduceIte,reduceCtorEq,aA,bD]
   refine fK 5 ?_
   simp only [m8,lA,kD,D.unown,↓wA,↓wC,wB,cQ,cP,bA,bB,bC,reduceIte,reduceCtorEq,aA,bD]
   have hI:=aC5 (o.cs.map Cs.o) (Cs.p ⟨id,a,o.day + v,[]⟩ (.lnk 7 v2)) (fun d hd=>by obtain ⟨y,_,rfl⟩:=aX.1 hd; rfl) rfl j (by simpa using hj1) (by simp; omega)
   refine dM (bx:=false) (r:=2) hI rfl rfl rfl ?_
   rintro _ _ ⟨⟨u,rfl⟩,rfl⟩
   have hnth:(kN ((o.cs.map Cs.o).take j ++ Cs.p ⟨id,a,o.day + v,[]⟩ (.lnk 7 v2) :: (o.cs.map Cs.o).drop j)).nth j=some (Cs.p ⟨id,a,o.day + v,[]⟩ (.lnk 7 v2)):=by
    rw [r8,List.getElem?_append_right (by simp; omega)]
    simp [aJ hj1]
   have hset:(kN ((o.cs.map Cs.o).take j ++ Cs.p ⟨id,a,o.day + v,[]⟩ (.lnk 7 v2) :: (o.cs.map Cs.o).drop j)).setN j (Cs.p ⟨id,a,o.day + v,[]⟩ (.sl true 1 .nil))=dl Cs.o (jQ ⟨id,a,o.day + v,[]⟩ o.cs):=by
    rw [aDm,aV _ _ (by simp; omega),hpe]
    simp [aJ hj1,dl]
    rfl
   generalize kN ((o.cs.map Cs.o).take j ++ Cs.p ⟨id,a,o.day + v,[]⟩ (.lnk 7 v2) :: (o.cs.map Cs.o).drop j)=NL at hnth hset
   repeat' (first|(simp only [cM,↓wA,↓wC,wB,cQ,cP,bA,bB,bC,reduceIte,reduceCtorEq,aA,bD])|((first|apply cJ|apply cK|apply cI)<;>intro h<;>try simp only [h]))
   refine fG _ (f8 0 none [1] (es:=4) (xs:=NL) rfl rfl) fun v3=>?_
   simp only [eS,↓wA,↓wC,wB,cQ,cP,bA,bB,bC,reduceIte,reduceCtorEq,aA,bD]
   refine dF (i7 9 7 6 (some j) [3] rfl (by simp only [lN,hnth,aN,fU]) rfl rfl (by decide) rfl) ?_
   simp only [eS,hnth,aL,fV,hset,↓wA,↓wC,wB,cQ,cP,bA,bB,bC,reduceIte,reduceCtorEq,aA,bD]
   refine dF (i7 0 10 9 none [1] rfl rfl rfl rfl (by decide) rfl) ?_
   simp only [eS,↓wA,↓wC,wB,cQ,cP,bA,bB,bC,reduceIte,reduceCtorEq,aA,bD]
   repeat' (first|(simp only [cM,↓wA,↓wC,wB,cQ,cP,bA,bB,bC,reduceIte,reduceCtorEq,aA,bD])|((first|apply cJ|apply cK|apply cI)<;>intro h<;>try simp only [h]))
   all_goals exact rZ hM rfl
theorem aEO (o:Off) (k id a v:Int) (ho:dV o=true) (hv0:0<=v) (hv1:v<=20000):wQ prog 104 true o.o [lG k id a v] (aQl (mkO o k id a v)):=by
 have hp:=eT ho
 have ho0:=fI ho
 have hA:=aBF o id ho0
 cases k2:decide (k=2) with
 | true =>
  have:=of_decide_eq_true k2
  subst this
  exact aOJ o id a v ho hv0 hv1
 | false =>
  have k2':=of_decide_eq_false k2
  cases ha:decide (a=0) with
  | false =>
   have ha':=of_decide_eq_false ha
   have hM:mkO o k id a v=none:=by unfold mkO; rw [if_neg k2',if_pos ha']
   refine gF vV [] ?_
   dsimp only [vV,cY,dD]
   simp only [Off.o,d5,lG]
   repeat' (first|(simp only [cM,dZ,k2,ha,↓wA,↓wC,wB,cQ,cP,bA,bB,bC,reduceIte,reduceCtorEq,aA,bD])|(refine cR hA (congrArg (fun d:D=>some [d,.int .i64 id]) (aZI o)) rfl ?_)|((first|apply cJ|apply cK|apply cI)<;>intro h<;>try simp only [h]))
   all_goals exact nE hM
  | true =>
   have ha':=of_decide_eq_true ha
   have hM0:mkO o k id a v=mkO o k id a v:=rfl
   conv at hM0=>rhs; unfold mkO
   rw [if_neg k2',if_neg (show ¬ a≠0 from fun h=>h ha')] at hM0
   cases k1:decide (k=1) with
   | true =>
    have k1':=of_decide_eq_true k1
    rw [if_pos k1'] at hM0
    refine gF vV [] ?_
    dsimp only [vV,cY,dD]
    simp only [Off.o,d5,lG]
    cases hi:decide (id=0) with
    | true =>
     have hi':=of_decide_eq_true hi
     repeat' (first|(simp only [cM,dZ,k2,ha,k1,hi,↓wA,↓wC,wB,cQ,cP,bA,bB,bC,reduceIte,reduceCtorEq,aA,bD])|(refine dN ?_)|(refine cR hA (congrArg (fun d:D=>some [d,.int .i64 id]) (aZI o)) rfl ?_)|(with_reducible refine cV ?_ ?_; focus (simp only [eA]; omega))|((first|apply cJ|apply cK|apply cI)<;>intro h<;>try simp only [h]))
     by_cases hv:1<=v
     ·rw [decide_eq_true hv]
      exact rZ (o':={ o with day:=o.day + v }) (by rw [hM0,if_pos ⟨hi',hv⟩]) rfl
     ·rw [decide_eq_false hv]
      exact nE (by rw [hM0,if_neg (fun h=>hv h.2)])
    | false =>
     have hi':=of_decide_eq_false hi
     repeat' (first|(simp only [cM,dZ,k2,ha,k1,hi,↓wA,↓wC,wB,cQ,cP,bA,bB,bC,reduceIte,reduceCtorEq,aA,bD])|(refine dN ?_)|(refine cR hA (congrArg (fun d:D=>some [d,.int .i64 id]) (aZI o)) rfl ?_)|(with_reducible refine cV ?_ ?_; focus (simp only [eA]; omega))|((first|apply cJ|apply cK|apply cI)<;>intro h<;>try simp only [h]))
     all_goals exact nE (by rw [hM0,if_neg (fun h=>hi' h.1)])
   | false =>
    have k1':=of_decide_eq_false k1
    rw [if_neg k1'] at hM0
    cases k4:decide (k=4) with
    | true =>
     have k4':=of_decide_eq_true k4
     rw [if_pos k4'] at hM0
     have hnd:∀ x∈o.cs,x.h.Nodup:=fun x hx=>aI2 (aLy (fT (hp.2.2.2.2.2.2.2.2.2 x hx)).2.2.2.2.2.2.2.2)
     refine gF vV [] ?_
     dsimp only [vV,cY,dD]
     simp only [Off.o,d5,lG]
     cases hi:decide (id=0) with
     | true =>
      have hi':=of_decide_eq_true hi
      repeat' (first|(simp only [cM,dZ,k2,ha,k1,k4,hi,↓wA,↓wC,wB,cQ,cP,bA,bB,bC,reduceIte,reduceCtorEq,aA,bD])|(refine cR hA (congrArg (fun d:D=>some [d,.int .i64 id]) (aZI o)) rfl ?_)|((first|apply cJ|apply cK|apply cI)<;>intro h<;>try simp only [h]))
      refine yB (bx:=true) (r:=0) (aJF o v ho0 hnd) rfl rfl rfl ?_
      repeat' (first|(simp only [cM,hi,↓wA,↓wC,wB,cQ,cP,bA,bB,bC,reduceIte,reduceCtorEq,aA,bD])|((first|apply cJ|apply cK|apply cI)<;>intro h<;>try simp only [h]))
      cases hh:yG v o.cs with
      | true=>exact rZ (o':={ o with cs:=o.cs.map (v7 v) }) (by rw [hM0,if_pos ⟨hi',hh⟩]) rfl
      | false=>exact nE (by rw [hM0,if_neg (fun h=>by rw [hh] at h; cases h.2)])
     | false =>
      have hi':=of_decide_eq_false hi
      repeat' (first|(simp only [cM,dZ,k2,ha,k1,k4,hi,↓wA,↓wC,wB,cQ,cP,bA,bB,bC,reduceIte,reduceCtorEq,aA,bD])|(refine cR hA (congrArg (fun d:D=>some [d,.int .i64 id]) (aZI o)) rfl ?_)|((first|apply cJ|apply cK|apply cI)<;>intro h<;>try simp only [h]))
      all_goals exact nE (by rw [hM0,if_neg (fun h=>hi' h.1)])
    | false =>
     have k4':=of_decide_eq_false k4
     rw [if_neg k4'] at hM0
     refine gF vV [] ?_
     dsimp only [vV,cY,dD]
     simp only [Off.o,d5,lG]
     cases hf:decide (0<=gM o.cs id) with
     | false =>
      have hf':=of_decide_eq_false hf
      rw [if_neg hf'] at hM0
      repeat' (first|(simp only [cM,dZ,k2,ha,k1,k4,hf,↓wA,↓wC,wB,cQ,cP,bA,bB,bC,reduceIte,reduceCtorEq,aA,bD])|(refine cR hA (congrArg (fun d:D=>some [d,.int .i64 id]) (aZI o)) rfl ?_)|((first|apply cJ|apply cK|apply cI)<;>intro h<;>try simp only [h]))
      all_goals exact nE hM0
     | true =>
      have hf':=of_decide_eq_true hf
      rw [if_pos hf'] at hM0
      rcases nX o.cs id with ⟨_,hn⟩|⟨i,x,hi,hr,_⟩
      ·exact absurd hf' (of_decide_eq_false hn)
      ·rw [hi,aB,hr] at hM0
       rw [hi] at hA hf
       have hS:=aH5 o i x k id a v ho hr hv0 hv1
       repeat' (first|(simp only [cM,dZ,k2,ha,k1,k4,hf,↓wA,↓wC,wB,cQ,cP,bA,bB,bC,reduceIte,reduceCtorEq,aA,bD])|(refine cR hA (congrArg (fun d:D=>some [d,.int .i64 id]) (aZI o)) rfl ?_)|((first|apply cJ|apply cK|apply cI)<;>intro h<;>try simp only [h]))
       refine dM (bx:=true) (r:=0) hS rfl rfl rfl ?_
       rintro x' _ ⟨rfl,hx'⟩
       repeat' (first|(simp only [cM,hf,↓wA,↓wC,wB,cQ,cP,bA,bB,bC,reduceIte,reduceCtorEq,aA,bD])|((first|apply cJ|apply cK|apply cI)<;>intro h<;>try simp only [h]))
       have hM1:mkO o k id a v=aAs o i x k v:=hM0
       all_goals exact ⟨by rw [hM1],fun o' h=>hx' o' (by rw [<- hM1]; exact h)⟩
def aCr:Off:=⟨0,[],0,0,[]⟩
theorem aHy (v:Int) (h:List Int):(lZ v h).length=h.length + 1:=by simp [lZ]; omega
theorem aCG {xs:List Cs} {i:Nat} {y:Cs} (h:xY xs) (hy:y.ok0):xY (xs.set i y):=⟨by simpa using h.1,fun z hz=>by
 rcases List.mem_or_eq_of_mem_set hz with hz|hz
 ·exact h.2 z hz
 ·rw [hz]; exact hy⟩
theorem aS0 {o o':Off} {k id a v:Int} (ho:dV o=true) (hx:∀ (i:Nat) (x:Cs),o.cs[i]?=some x->gS x=true) (h:mkO o k id a v=some o'):o'.ok0:=by
 have hp:=eT ho
 have h0:=fI ho
 unfold mkO at h
 by_cases k2:k=2
 ·rw [if_pos k2] at h
  split at h
  ·cases h
  ·injection h with h
   subst h
   refine ⟨⟨?_,fun x hx=>?_⟩,h0.2⟩
   ·simp [jQ]; omega
   ·rcases aU.1 hx with hx|hx
    ·exact h0.1.2 x (List.mem_of_mem_take hx)
    ·rcases List.mem_cons.1 hx with rfl|hx
     ·simp [Cs.ok0]
     ·exact h0.1.2 x (List.mem_of_mem_drop hx)
 ·rw [if_neg k2] at h
  split at h
  ·cases h
  split at h
  ·split at h
   ·injection h with h; subst h; exact h0
   ·cases h
  split at h
  ·split at h
   ·injection h with h
    subst h
    refine ⟨⟨by simpa using h0.1.1,fun x hx=>?_⟩,h0.2⟩
    obtain ⟨y,hy,rfl⟩:=aX.1 hx
    have h1:=h0.1.2 y hy
    have h2:=aW (fun n=>!decide (n=v)) y.h
    exact Nat.le_trans h2 h1
   ·cases h
  split at h
  ·split at h
   ·rename_i x hr
    have hxc:=fT (hx _ x hr)
    split at h
    ·split at h
     ·cases h
     ·injection h with h
      subst h
      refine ⟨aCG h0.1 ?_,h0.2⟩
      show (lZ v x.h).length<=1048576
      rw [aHy]; omega
    ·split at h
     ·split at h
      ·injection h with h
       subst h
       refine ⟨aCG h0.1 ?_,h0.2⟩
       show x.h.length<=1048576
       omega
      ·cases h
     ·split at h
      ·split at h
       ·injection h with h
        subst h
        have he:∀ i,xY (o.cs.eraseIdx i):=fun i=>⟨by have:=aT o.cs i; omega,fun y hy=>h0.1.2 y (aS hy)⟩
        unfold mP
        split
        ·exact ⟨he _,h0.2⟩
        ·split
         ·exact ⟨he _,h0.2⟩
         ·refine ⟨he _,by simp; omega,fun s hs=>?_⟩
          rcases aU.1 hs with hs|hs
          ·exact h0.2.2 s hs
          ·rw [aY.1 hs]
           have h1:=eJ x.i (by simp only [eA]; omega)
           have h2:=eJ o.day (by simp only [eA]; omega)
           simp [nM]; omega
       ·cases h
      ·cases h
   ·cases h
  ·cases h
def uP:Option Off->List D
 | some o'=>[o'.o,.bool true]
 | none=>[aCr.o,.bool false]
theorem aIo (o:Off) (k id a v:Int) (ho:o.ok0):Fn prog 71 [o.s,lG k id a v] (fun rs=>rs=uP (iO o k id a v)):=by
 have hV:=kP o ho
 have hW:=fL v 0 20000
 cases hv:dV o with
 | false =>
  have hR:iO o k id a v=none:=by unfold iO; rw [hv]; rfl
  rw [hR]
  rw [hv] at hV
  refine c7 aMg [] ?_
  dsimp only [aMg,cY,dD]
  simp only [lG]
  repeat' (first|(simp only [aZw,aZx,↓dK,cM,↓wA,↓wC,wB,cQ,cP,bA,bB,bC,reduceIte,reduceCtorEq,aA,bD,dJ])|(refine cO hV (by simp [dH,dQ,aZv]) rfl ?_)|((first|apply cJ|apply cK|apply cI)<;>intro h<;>try simp only [h]))
  all_goals rfl
 | true =>
  rw [hv] at hV
  cases hw:dE v 0 20000 with
  | false =>
   have hR:iO o k id a v=none:=by unfold iO; rw [hv,hw]; rfl
   rw [hR]
   rw [hw] at hW
   refine c7 aMg [] ?_
   dsimp only [aMg,cY,dD]
   simp only [lG]
   repeat' (first|(simp only [aZw,aZx,↓dK,cM,↓wA,↓wC,wB,cQ,cP,bA,bB,bC,reduceIte,reduceCtorEq,aA,bD,dJ])|(refine cO (hW) rfl rfl ?_)|(refine cR (hW) rfl rfl ?_)|(refine cO hV (by simp [dH,dQ,aZv]) rfl ?_)|((first|apply cJ|apply cK|apply cI)<;>intro h<;>try simp only [h]))
   all_goals rfl
  | true =>
   have hwi:=j9.1 hw
   rw [hw] at hW
   have hR:iO o k id a v=(mkO o k id a v).filter dV:=by unfold iO; rw [hv,hw]; rfl
   have hC:=yQ o ho
   have hS:=aEO o k id a v hv hwi.1 hwi.2
   have hno:∀ q:Off,q.o.noOwn=false:=fun q=>by simp [Off.o,d5,D.noOwn]
   have hst:∀ q:Off,q.o.isStB=true:=fun q=>rfl
   refine c7 aMg [] ?_
   dsimp only [aMg,cY,dD]
   simp only [lG]
   repeat' (first|(simp only [aZw,aZx,aZP,aZN,aZB,hno,↓dK,cM,↓wA,↓wC,wB,cQ,cP,bA,bB,bC,reduceIte,reduceCtorEq,aA,bD,dJ])|(refine cO (hW) rfl rfl ?_)|(refine cR (hW) rfl rfl ?_)|(refine cO hV (by simp [dH,dQ,aZv]) rfl ?_)|(refine cO hC (by simp [dH,dQ,aZv]) rfl ?_)|((first|apply cJ|apply cK|apply cI)<;>intro h<;>try simp only [h]))
   refine dM (bx:=true) (r:=4) hS rfl rfl rfl ?_
   rintro x' _ ⟨rfl,hx'⟩
   rw [hR]
   cases hM:mkO o k id a v with
   | none =>
    repeat' (first|(simp only [dZ,cM,Option.isSome_none,↓wA,↓wC,wB,cQ,cP,bA,bB,bC,reduceIte,reduceCtorEq,aA,bD,dJ])|((first|apply cJ|apply cK|apply cI)<;>intro h<;>try simp only [h]))
    all_goals rfl
   | some o' =>
    obtain rfl:=hx' o' hM
    have hV':=kP o' (aS0 hv (fun i x hr=>(eT hv).2.2.2.2.2.2.2.2.2 x (aG hr)) hM)
    cases hv':dV o' with
    | true =>
     rw [hv'] at hV'
     have hr:uP (aP dV (some o'))=[o'.o,.bool true]:=by simp [aP,hv',uP]
     rw [hr]
     repeat' (first|(simp only [dZ,hst,cM,aZ,aZP,aZN,hno,↓dK,↓wA,↓wC,wB,cQ,cP,bA,bB,bC,reduceIte,reduceCtorEq,aA,bD,dJ])|(refine cO hV' (congrArg (fun d:D=>some [d]) (aZI o')) rfl ?_)|((first|apply cJ|apply cK|apply cI)<;>intro h<;>try simp only [h]))
     exact ⟨_,rfl,rfl,rfl,rfl,rfl⟩
    | false =>
     rw [hv'] at hV'
     have hr:uP (aP dV (some o'))=[aCr.o,.bool false]:=by simp [aP,hv',uP]
     rw [hr]
     repeat' (first|(simp only [dZ,hst,cM,aZ,aZP,aZN,hno,↓dK,↓wA,↓wC,wB,cQ,cP,bA,bB,bC,reduceIte,reduceCtorEq,aA,bD,dJ])|(refine cO hV' (congrArg (fun d:D=>some [d]) (aZI o')) rfl ?_)|((first|apply cJ|apply cK|apply cI)<;>intro h<;>try simp only [h]))
     all_goals rfl
structure Stp where
 k:Int
 i:Int
 a:Int
 v:Int
def Stp.d (s:Stp):D:=lG s.k s.i s.a s.v
theorem w3 {o q:Off} {k id a v:Int} (h:iO o k id a v=some q):dV q=true:=by
 unfold iO at h
 split at h
 ·cases hm:mkO o k id a v with
  | none=>rw [hm] at h; cases h
  | some o' =>
   rw [hm] at h
   simp only [aP] at h
   split at h
   ·rename_i hv; injection h with h; rw [<- h]; exact hv
   ·cases h
 ·cases h
theorem aYe {P:PG} {un lv:List Nat} {p:MP} {s:St} {Q:Exit->St->Prop} (J:St->Prop) (h:gB P un p [] s fun s'=>J ⟨nW lv s'.e,s'.o⟩) (h2:∀ s',J s'->∃ s1,gJ s' s1/\Q .normal s1):e8 P (.any un lv p) s Q:=⟨J,h,h2⟩
def zO:D:=.st (.cons (.int .i64 0) (.cons (.sl true 4 .nil) (.cons (.int .i64 0) (.cons (.int .i64 0) (.cons (.sl true 1 .nil) .nil)))))
def Off.w (o:Off):D:=d5 o (.sl true 4 (dl Cs.s o.cs)) (.sl true 1 (dl D.str o.led))
def aHm (o:Off) (j:Nat) (l:List Ob):St:=⟨[(1,.d (.ptr o.s)),(2,.ptr 1 0 []),(3,.ptr j 0 [])],.dead :: .box zO :: (l ++ [.box (d5 o (.sl true 4 .nil) (.sl true 1 (dl D.str o.led)))])⟩
theorem aQh {F:(St->Prop)->Prop} {Q:St->Prop} (J:St->Prop) (h:F J) (h2:∀ s',J s'->∃ s1,gJ s' s1/\Q s1):onJ F Q:=⟨J,h,h2⟩
theorem xM (v:List Int) (hlen:v.length<=1048576):Fn prog 114 [.sl false 1 (dl iD v)] (fun rs=>rs=[.sl true 1 (dl iD v)]):=by
 refine c7 aTq [] ?_
 dsimp only [aTq,cY,dD]
 simp only [cU,↓wA,↓wC,wB,cQ,cP,bA,bB,bC,reduceIte,reduceCtorEq,aA,bD,dJ]
 refine cW ⟨by omega,by omega⟩ ?_
 simp only [↓wA,↓wC,wB,cQ,cP,bA,bB,bC,reduceIte,reduceCtorEq,aA,bD,dJ]
theorem lJ (o:Off) (ho:o.ok0):Fn prog 75 [o.s] (fun rs=>rs=[o.w]):=by
 have hlen:=ho.1.1
 have hlen2:=ho.2.1
 refine c7 aW0 [[1,1,0,1,0,0,1,0,0,1],[1,1,0,1,0,0,1,0,0,1],[1,0]] ?_
 dsimp only [aW0,cY,dD]
 simp only [Off.s,d5]
 repeat' (first|(simp only [c8,cZ,cM,cU,↓wA,↓wC,wB,cQ,cP,bA,bB,bC,reduceIte,reduceCtorEq,aA,bD,dJ])|((first|apply cJ|apply cK|apply cI)<;>intro h<;>try simp only [h]))
 refine dF (iV 0 rfl) ?_
 simp only [cQ,cP,D.unown,gG,fF,c8,cZ,cM,cU,↓wA,↓wC,wB,cQ,cP,bA,bB,bC,reduceIte,reduceCtorEq,aA,bD,dJ]
 refine aQh (fun s=>gJ s (aHm o 2 [])\/gJ s (aHm o 3 [.dead])\/gJ s (aHm o 4 [.dead,.dead])\/gJ s (aHm o 5 [.dead,.dead,.dead])) ?_ ?_
 ·repeat' (first
   |(with_reducible refine aE ?_ ?_)
   |(with_reducible refine cW ?_ ?_; focus omega))
  all_goals (first|exact .inl (cX _ rfl ⟨⟨rfl,rfl⟩,⟨rfl,rfl⟩,⟨rfl,rfl⟩,trivial⟩)|exact .inr (.inl (cX _ rfl ⟨⟨rfl,rfl⟩,⟨rfl,rfl⟩,⟨rfl,rfl⟩,trivial⟩))|exact .inr (.inr (.inl (cX _ rfl ⟨⟨rfl,rfl⟩,⟨rfl,rfl⟩,⟨rfl,rfl⟩,trivial⟩)))|exact .inr (.inr (.inr (cX _ rfl ⟨⟨rfl,rfl⟩,⟨rfl,rfl⟩,⟨rfl,rfl⟩,trivial⟩)))|trace_state)
 ·rintro s' (h|h|h|h)
  ·refine ⟨_,h,?_⟩
   simp only [aHm,aC,aD,↓wA,↓wC,wB,cQ,cP,bA,bB,bC,reduceIte,reduceCtorEq,aA,bD,dJ]
   refine dU o.cs.length (fun i:Nat=>⟨[(1,.d (.ptr o.s)),(2,.ptr 1 0 []),(3,.ptr 2 0 []),(4,.d (.int .i64 i))],.dead :: .box zO :: ([] ++ [.box (d5 o (.sl true 4 (dl Cs.s (o.cs.take i))) (.sl true 1 (dl D.str o.led)))])⟩) (fun _=>True) ?_ trivial ?_ ?_
   ·exact (cX _ rfl ⟨⟨rfl,rfl⟩,⟨rfl,rfl⟩,⟨rfl,rfl⟩,⟨rfl,rfl⟩,trivial⟩)
   ·intro i hlt _ hd h0
    obtain ⟨x,hr⟩:=dS hlt
    have h1:Fn prog 114 [.sl false 1 (dl iD x.h)] (fun rs=>rs=[.sl false 1 (dl iD x.h)]):=by
     have h:=fE (xM x.h (ho.1.2 x (aG hr)))
     simpa [D.unown,dW] using h
    simp only [Off.s,d5,aC,aD]
    repeat' (first|(simp only [cU,hd,h0,dC,aB,hr,aF,cM,c8,cZ,↓iN,aZE,aZD,↓wA,↓wC,wB,cQ,cP,bA,bB,bC,reduceIte,reduceCtorEq,aA,bD,dJ])|(refine cV (by simp only [eA]; omega) ?_)|((first|apply cJ|apply cK|apply cI)<;>intro h<;>try simp only [h]))
    refine dF (iV 3 rfl) ?_
    simp only [cQ,cP,aZF,↓wA,↓wC,wB,cQ,cP,bA,bB,bC,reduceIte,reduceCtorEq,aA,bD,dJ]
    refine fG _ (f8 2 none [1] (es:=4) (xs:=dl Cs.s (o.cs.take i)) rfl rfl) fun v1=>?_
    simp only [eS,Cs.s,Cs.p,c8,cZ,cM,cU,↓wA,↓wC,wB,cQ,cP,bA,bB,bC,reduceIte,reduceCtorEq,aA,bD,dJ]
    repeat' (first|(simp only [cU,hd,h0,cM,c8,cZ,dB,↓wA,↓wC,wB,cQ,cP,bA,bB,bC,reduceIte,reduceCtorEq,aA,bD,dJ])|(refine dN ?_)|(refine cO h1 rfl rfl ?_)|(with_reducible refine cW ?_ ?_; focus omega)|(refine cV (by simp only [eA]; omega) ?_)|((first|apply cJ|apply cK|apply cI)<;>intro h<;>try simp only [h]))
    refine cW (by simp) ?_
    have hl:(o.cs.take i).length=i:=by simp; omega
    refine cW (by rw [hl]; omega) ?_
    refine cV (by simp only [eA]; omega) ?_
    refine ⟨i + 1,?_,by omega,by omega⟩
    have happ:(dl Cs.s (o.cs.take i)).app ((D.st (.cons (.int .i64 x.i) (.cons (.int .i64 x.a) (.cons (.int .i64 x.d) (.cons (.sl false 1 (dl iD x.h)) .nil))))).cons .nil)=dl Cs.s (o.cs.take (i + 1)):=(iT (f:=Cs.s) (o.cs.take i) x).trans (by rw [fY hr])
    rw [happ]
    exact (cX _ rfl ⟨⟨rfl,rfl⟩,⟨rfl,rfl⟩,⟨rfl,rfl⟩,⟨rfl,rfl⟩,trivial⟩)
   ·intro _ hd
    rw [aH]
    simp only [Off.s,d5,aC,aD]
    repeat' (first|(simp only [cU,hd,cM,↓wA,↓wC,wB,cQ,cP,bA,bB,bC,reduceIte,reduceCtorEq,aA,bD,dJ])|((first|apply cJ|apply cK|apply cI)<;>intro h<;>try simp only [h]))
    exact cW (c8 _) (cW rfl (cW rfl rfl))
  ·refine ⟨_,h,?_⟩
   simp only [aHm,aC,aD,↓wA,↓wC,wB,cQ,cP,bA,bB,bC,reduceIte,reduceCtorEq,aA,bD,dJ]
   refine dU o.cs.length (fun i:Nat=>⟨[(1,.d (.ptr o.s)),(2,.ptr 1 0 []),(3,.ptr 3 0 []),(4,.d (.int .i64 i))],.dead :: .box zO :: ([.dead] ++ [.box (d5 o (.sl true 4 (dl Cs.s (o.cs.take i))) (.sl true 1 (dl D.str o.led)))])⟩) (fun _=>True) ?_ trivial ?_ ?_
   ·exact (cX _ rfl ⟨⟨rfl,rfl⟩,⟨rfl,rfl⟩,⟨rfl,rfl⟩,⟨rfl,rfl⟩,trivial⟩)
   ·intro i hlt _ hd h0
    obtain ⟨x,hr⟩:=dS hlt
    have h1:Fn prog 114 [.sl false 1 (dl iD x.h)] (fun rs=>rs=[.sl false 1 (dl iD x.h)]):=by
     have h:=fE (xM x.h (ho.1.2 x (aG hr)))
     simpa [D.unown,dW] using h
    simp only [Off.s,d5,aC,aD]
    repeat' (first|(simp only [cU,hd,h0,dC,aB,hr,aF,cM,c8,cZ,↓iN,aZE,aZD,↓wA,↓wC,wB,cQ,cP,bA,bB,bC,reduceIte,reduceCtorEq,aA,bD,dJ])|(refine cV (by simp only [eA]; omega) ?_)|((first|apply cJ|apply cK|apply cI)<;>intro h<;>try simp only [h]))
    refine dF (iV 4 rfl) ?_
    simp only [cQ,cP,aZF,↓wA,↓wC,wB,cQ,cP,bA,bB,bC,reduceIte,reduceCtorEq,aA,bD,dJ]
    refine fG _ (f8 3 none [1] (es:=4) (xs:=dl Cs.s (o.cs.take i)) rfl rfl) fun v1=>?_
    simp only [eS,Cs.s,Cs.p,c8,cZ,cM,cU,↓wA,↓wC,wB,cQ,cP,bA,bB,bC,reduceIte,reduceCtorEq,aA,bD,dJ]
    repeat' (first|(simp only [cU,hd,h0,cM,c8,cZ,dB,↓wA,↓wC,wB,cQ,cP,bA,bB,bC,reduceIte,reduceCtorEq,aA,bD,dJ])|(refine dN ?_)|(refine cO h1 rfl rfl ?_)|(with_reducible refine cW ?_ ?_; focus omega)|(refine cV (by simp only [eA]; omega) ?_)|((first|apply cJ|apply cK|apply cI)<;>intro h<;>try simp only [h]))
    refine cW (by simp) ?_
    have hl:(o.cs.take i).length=i:=by simp; omega
    refine cW (by rw [hl]; omega) ?_
    refine cV (by simp only [eA]; omega) ?_
    refine ⟨i + 1,?_,by omega,by omega⟩
    have happ:(dl Cs.s (o.cs.take i)).app ((D.st (.cons (.int .i64 x.i) (.cons (.int .i64 x.a) (.cons (.int .i64 x.d) (.cons (.sl false 1 (dl iD x.h)) .nil))))).cons .nil)=dl Cs.s (o.cs.take (i + 1)):=(iT (f:=Cs.s) (o.cs.take i) x).trans (by rw [fY hr])
    rw [happ]
    exact (cX _ rfl ⟨⟨rfl,rfl⟩,⟨rfl,rfl⟩,⟨rfl,rfl⟩,⟨rfl,rfl⟩,trivial⟩)
   ·intro _ hd
    rw [aH]
    simp only [Off.s,d5,aC,aD]
    repeat' (first|(simp only [cU,hd,cM,↓wA,↓wC,wB,cQ,cP,bA,bB,bC,reduceIte,reduceCtorEq,aA,bD,dJ])|((first|apply cJ|apply cK|apply cI)<;>intro h<;>try simp only [h]))
    exact cW (c8 _) (cW rfl (cW rfl rfl))
  ·refine ⟨_,h,?_⟩
   simp only [aHm,aC,aD,↓wA,↓wC,wB,cQ,cP,bA,bB,bC,reduceIte,reduceCtorEq,aA,bD,dJ]
   refine dU o.cs.length (fun i:Nat=>⟨[(1,.d (.ptr o.s)),(2,.ptr 1 0 []),(3,.ptr 4 0 []),(4,.d (.int .i64 i))],.dead :: .box zO :: ([.dead,.dead] ++ [.box (d5 o (.sl true 4 (dl Cs.s (o.cs.take i))) (.sl true 1 (dl D.str o.led)))])⟩) (fun _=>True) ?_ trivial ?_ ?_
   ·exact (cX _ rfl ⟨⟨rfl,rfl⟩,⟨rfl,rfl⟩,⟨rfl,rfl⟩,⟨rfl,rfl⟩,trivial⟩)
   ·intro i hlt _ hd h0
    obtain ⟨x,hr⟩:=dS hlt
    have h1:Fn prog 114 [.sl false 1 (dl iD x.h)] (fun rs=>rs=[.sl false 1 (dl iD x.h)]):=by
     have h:=fE (xM x.h (ho.1.2 x (aG hr)))
     simpa [D.unown,dW] using h
    simp only [Off.s,d5,aC,aD]
    repeat' (first|(simp only [cU,hd,h0,dC,aB,hr,aF,cM,c8,cZ,↓iN,aZE,aZD,↓wA,↓wC,wB,cQ,cP,bA,bB,bC,reduceIte,reduceCtorEq,aA,bD,dJ])|(refine cV (by simp only [eA]; omega) ?_)|((first|apply cJ|apply cK|apply cI)<;>intro h<;>try simp only [h]))
    refine dF (iV 5 rfl) ?_
    simp only [cQ,cP,aZF,↓wA,↓wC,wB,cQ,cP,bA,bB,bC,reduceIte,reduceCtorEq,aA,bD,dJ]
    refine fG _ (f8 4 none [1] (es:=4) (xs:=dl Cs.s (o.cs.take i)) rfl rfl) fun v1=>?_
    simp only [eS,Cs.s,Cs.p,c8,cZ,cM,cU,↓wA,↓wC,wB,cQ,cP,bA,bB,bC,reduceIte,reduceCtorEq,aA,bD,dJ]
    repeat' (first|(simp only [cU,hd,h0,cM,c8,cZ,dB,↓wA,↓wC,wB,cQ,cP,bA,bB,bC,reduceIte,reduceCtorEq,aA,bD,dJ])|(refine dN ?_)|(refine cO h1 rfl rfl ?_)|(with_reducible refine cW ?_ ?_; focus omega)|(refine cV (by simp only [eA]; omega) ?_)|((first|apply cJ|apply cK|apply cI)<;>intro h<;>try simp only [h]))
    refine cW (by simp) ?_
    have hl:(o.cs.take i).length=i:=by simp; omega
    refine cW (by rw [hl]; omega) ?_
    refine cV (by simp only [eA]; omega) ?_
    refine ⟨i + 1,?_,by omega,by omega⟩
    have happ:(dl Cs.s (o.cs.take i)).app ((D.st (.cons (.int .i64 x.i) (.cons (.int .i64 x.a) (.cons (.int .i64 x.d) (.cons (.sl false 1 (dl iD x.h)) .nil))))).cons .nil)=dl Cs.s (o.cs.take (i + 1)):=(iT (f:=Cs.s) (o.cs.take i) x).trans (by rw [fY hr])
    rw [happ]
    exact (cX _ rfl ⟨⟨rfl,rfl⟩,⟨rfl,rfl⟩,⟨rfl,rfl⟩,⟨rfl,rfl⟩,trivial⟩)
   ·intro _ hd
    rw [aH]
    simp only [Off.s,d5,aC,aD]
    repeat' (first|(simp only [cU,hd,cM,↓wA,↓wC,wB,cQ,cP,bA,bB,bC,reduceIte,reduceCtorEq,aA,bD,dJ])|((first|apply cJ|apply cK|apply cI)<;>intro h<;>try simp only [h]))
    exact cW (c8 _) (cW rfl (cW rfl rfl))
  ·refine ⟨_,h,?_⟩
   simp only [aHm,aC,aD,↓wA,↓wC,wB,cQ,cP,bA,bB,bC,reduceIte,reduceCtorEq,aA,bD,dJ]
   refine dU o.cs.length (fun i:Nat=>⟨[(1,.d (.ptr o.s)),(2,.ptr 1 0 []),(3,.ptr 5 0 []),(4,.d (.int .i64 i))],.dead :: .box zO :: ([.dead,.dead,.dead] ++ [.box (d5 o (.sl true 4 (dl Cs.s (o.cs.take i))) (.sl true 1 (dl D.str o.led)))])⟩) (fun _=>True) ?_ trivial ?_ ?_
   ·exact (cX _ rfl ⟨⟨rfl,rfl⟩,⟨rfl,rfl⟩,⟨rfl,rfl⟩,⟨rfl,rfl⟩,trivial⟩)
   ·intro i hlt _ hd h0
    obtain ⟨x,hr⟩:=dS hlt
    have h1:Fn prog 114 [.sl false 1 (dl iD x.h)] (fun rs=>rs=[.sl false 1 (dl iD x.h)]):=by
     have h:=fE (xM x.h (ho.1.2 x (aG hr)))
     simpa [D.unown,dW] using h
    simp only [Off.s,d5,aC,aD]
    repeat' (first|(simp only [cU,hd,h0,dC,aB,hr,aF,cM,c8,cZ,↓iN,aZE,aZD,↓wA,↓wC,wB,cQ,cP,bA,bB,bC,reduceIte,reduceCtorEq,aA,bD,dJ])|(refine cV (by simp only [eA]; omega) ?_)|((first|apply cJ|apply cK|apply cI)<;>intro h<;>try simp only [h]))
    refine dF (iV 6 rfl) ?_
    simp only [cQ,cP,aZF,↓wA,↓wC,wB,cQ,cP,bA,bB,bC,reduceIte,reduceCtorEq,aA,bD,dJ]
    refine fG _ (f8 5 none [1] (es:=4) (xs:=dl Cs.s (o.cs.take i)) rfl rfl) fun v1=>?_
    simp only [eS,Cs.s,Cs.p,c8,cZ,cM,cU,↓wA,↓wC,wB,cQ,cP,bA,bB,bC,reduceIte,reduceCtorEq,aA,bD,dJ]
    repeat' (first|(simp only [cU,hd,h0,cM,c8,cZ,dB,↓wA,↓wC,wB,cQ,cP,bA,bB,bC,reduceIte,reduceCtorEq,aA,bD,dJ])|(refine dN ?_)|(refine cO h1 rfl rfl ?_)|(with_reducible refine cW ?_ ?_; focus omega)|(refine cV (by simp only [eA]; omega) ?_)|((first|apply cJ|apply cK|apply cI)<;>intro h<;>try simp only [h]))
    refine cW (by simp) ?_
    have hl:(o.cs.take i).length=i:=by simp; omega
    refine cW (by rw [hl]; omega) ?_
    refine cV (by simp only [eA]; omega) ?_
    refine ⟨i + 1,?_,by omega,by omega⟩
    have happ:(dl Cs.s (o.cs.take i)).app ((D.st (.cons (.int .i64 x.i) (.cons (.int .i64 x.a) (.cons (.int .i64 x.d) (.cons (.sl false 1 (dl iD x.h)) .nil))))).cons .nil)=dl Cs.s (o.cs.take (i + 1)):=(iT (f:=Cs.s) (o.cs.take i) x).trans (by rw [fY hr])
    rw [happ]
    exact (cX _ rfl ⟨⟨rfl,rfl⟩,⟨rfl,rfl⟩,⟨rfl,rfl⟩,⟨rfl,rfl⟩,trivial⟩)
   ·intro _ hd
    rw [aH]
    simp only [Off.s,d5,aC,aD]
    repeat' (first|(simp only [cU,hd,cM,↓wA,↓wC,wB,cQ,cP,bA,bB,bC,reduceIte,reduceCtorEq,aA,bD,dJ])|((first|apply cJ|apply cK|apply cI)<;>intro h<;>try simp only [h]))
    exact cW (c8 _) (cW rfl (cW rfl rfl))
theorem aKK (o:Off) (k id a v:Int) (ho:o.ok0):Fn prog 138 [o.s,lG k id a v] (fun rs=>rs=[.bool (oG o k id a v)]):=by
 have hF:=l8 o id ho
 have hid:=jL id 1 999
 have ha:=jL a 1 3
 have hv:=jL v 1 9
 unfold oG
 refine c7 aTC [] ?_
 dsimp only [aTC,cY,dD]
 simp only [lG]
 repeat' (first|(simp only [aZw,aZx,aZB,↓dK,cM,↓wA,↓wC,wB,cQ,cP,bA,bB,bC,reduceIte,reduceCtorEq,aA,bD,dJ])|(refine cO hF (by simp [dH,dQ,aZv]) rfl ?_)|(refine cO (hid) rfl rfl ?_)|(refine cR (hid) rfl rfl ?_)|(refine cO (ha) rfl rfl ?_)|(refine cR (ha) rfl rfl ?_)|(refine cO (hv) rfl rfl ?_)|(refine cR (hv) rfl rfl ?_)|((first|apply cJ|apply cK|apply cI)<;>intro h<;>try simp only [h]))
 all_goals simp_all
theorem aI5 (o:Off) (k id a v:Int) (ho:o.ok0) (hb:eA .i64 (o.day + v)):Fn prog 172 [o.s,lG k id a v] (fun rs=>rs=[Off.w { o with cs:=jQ ⟨id,a,o.day + v,[]⟩ o.cs }]):=by
 have hO:=lJ o ho
 have hno:o.w.noOwn=false:=by simp [Off.w,d5,D.noOwn]
 have hwV:o.w.isV=true:=rfl
 have hwS:o.w.size=5:=rfl
 have hlen:=ho.1.1
 refine c7 aT2 [[1,1,1,1,1,0],[1,1,0],[1,1,0],[1,1,0]] ?_
 dsimp only [aT2,cY,dD]
 simp only [lG]
 repeat' (first|(simp only [aZw,aZx,aZB,hno,hwV,hwS,↓dK,cM,↓wA,↓wC,wB,cQ,cP,bA,bB,bC,reduceIte,reduceCtorEq,aA,bD,dJ])|(refine cO hO (by simp [dH,dQ,aZv]) rfl ?_)|((first|apply cJ|apply cK|apply cI)<;>intro h<;>try simp only [h]))
 refine dF (iV 0 rfl) ?_
 simp only [cQ,cP,aZv,↓wA,↓wC,wB,cQ,cP,bA,bB,bC,reduceIte,reduceCtorEq,aA,bD,dJ]
 refine dF (iV 1 rfl) ?_
 simp only [cQ,cP,D.unown,↓wA,↓wC,wB,cQ,cP,bA,bB,bC,reduceIte,reduceCtorEq,aA,bD,dJ]
 refine dF (freeze 4 none [1] (x:=.sl true 4 (dl Cs.s o.cs)) rfl rfl rfl) ?_
 simp only [eS,Off.w,d5,D.unown,gG,↓wA,↓wC,wB,cQ,cP,bA,bB,bC,reduceIte,reduceCtorEq,aA,bD,dJ]
 refine eM (fun j:Nat=>⟨[(2,.d (.ptr o.s)),(3,.d (.ptr (lG k id a v))),(4,.ptr 2 0 []),(5,.ptr 4 0 []),(6,.d (.int .i64 j))],[.dead,.dead,.box zO,.dead,.box (d5 o (.sl false 4 (dl Cs.s o.cs)) (.sl true 1 (dl D.str o.led)))]⟩) (fun j=>j<=o.cs.length/\∀ m x,m < j->o.cs[m]?=some x->x.i < id) (fun j=>o.cs.length - j) 0 (cX _ rfl ⟨⟨rfl,rfl⟩,⟨rfl,rfl⟩,⟨rfl,rfl⟩,⟨rfl,rfl⟩,⟨rfl,rfl⟩,trivial⟩) ⟨by omega,fun m x hm=>by omega⟩ ?_
 rintro j ⟨hj1,hj2⟩
 simp only [d5,lG]
 have hcm:∀ x:Cs,Cs.s x=x.p (.sl false 1 (dl iD x.h)):=fun _=>rfl
 have hj0:(0:Int)<=(j:Int):=by omega
 by_cases hlt:j < o.cs.length
 ·obtain ⟨x,hr⟩:=dS hlt
  have hd:decide ((j:Int) < (o.cs.length:Int))=true:=decide_eq_true (by omega)
  cases hx:decide (x.i < id) with
  | true =>
   repeat' (first|(simp only [cM,cU,dC,hd,hx,hr,hj0,Cs.s,Cs.p,c8,cZ,aB,aF,x7,xT,↓wA,↓wC,wB,cQ,cP,bA,bB,bC,reduceIte,reduceCtorEq,aA,bD,dJ])|(with_reducible refine cV ?_ ?_; focus (simp only [eA]; omega))|((first|apply cJ|apply cK|apply cI)<;>intro h<;>try simp only [h]))
   refine ⟨j + 1,(cX _ rfl ⟨⟨rfl,rfl⟩,⟨rfl,rfl⟩,⟨rfl,rfl⟩,⟨rfl,rfl⟩,⟨rfl,rfl⟩,trivial⟩),⟨by omega,fun m y hm hy=>?_⟩,by omega⟩
   by_cases e:m=j
   ·subst e
    rw [hr] at hy
    injection hy with hy
    rw [<- hy]; exact of_decide_eq_true hx
   ·exact hj2 m y (by omega) hy
  | false =>
   have hpl:sV id o.cs=j:=tN o.cs j hj1 hj2 (fun y hy=>by rw [hr] at hy; injection hy with hy; rw [<- hy]; exact of_decide_eq_false hx)
   repeat' (first|(simp only [cM,cU,dC,hd,hx,hr,hj0,Off.s,d5,Cs.s,Cs.p,c8,cZ,aB,aF,x7,xT,↓wA,↓wC,wB,cQ,cP,bA,bB,bC,reduceIte,reduceCtorEq,aA,bD,dJ])|(with_reducible refine cV hb ?_)|(with_reducible refine cV ?_ ?_; focus (simp only [eA]; omega))|((first|apply cJ|apply cK|apply cI)<;>intro h<;>try simp only [h]))
   refine dF (iV 7 rfl) ?_
   simp only [cQ,cP,D.unown,↓wA,↓wC,wB,cQ,cP,bA,bB,bC,reduceIte,reduceCtorEq,aA,bD,dJ]
   repeat' (first|(simp only [cM,cU,c8,cZ,↓wA,↓wC,wB,cQ,cP,bA,bB,bC,reduceIte,reduceCtorEq,aA,bD,dJ])|(refine dN ?_)|(with_reducible refine aE ?_ ?_)|(with_reducible refine cV ?_ ?_; focus (simp only [eA]; omega))|((first|apply cJ|apply cK|apply cI)<;>intro h<;>try simp only [h]))
   have hs1:(dl Cs.s o.cs).sub 0 j=dl Cs.s (o.cs.take j):=by rw [rA]; rfl
   have hs2:(dl Cs.s o.cs).sub j o.cs.length=dl Cs.s (o.cs.drop j):=by rw [rA,aH]
   have happ:∀ xs:List Cs,(dl Cs.s xs).app (D.cons (D.st (.cons (.int .i64 id) (.cons (.int .i64 a) (.cons (.int .i64 (o.day + v)) (.cons (.sl false 1 .nil) .nil))))) .nil)=dl Cs.s (xs ++ [⟨id,a,o.day + v,[]⟩]):=fun xs=>iT (f:=Cs.s) xs ⟨id,a,o.day + v,[]⟩
   have hen:jQ ⟨id,a,o.day + v,[]⟩ o.cs=(o.cs.take j ++ [⟨id,a,o.day + v,[]⟩]) ++ o.cs.drop j:=by unfold jQ; rw [hpl]; simp
   rw [hen]
   clear hen
   simp only [aB,hs1,hs2,happ,zJ,cU,aO,aQ,aR,aM,aJ hj1]
   repeat' (first|(with_reducible refine aE ?_ ?_)|(with_reducible refine cW ?_ ?_; focus omega)|(with_reducible refine cW ?_ ?_; focus (simp; done))|(with_reducible refine cW ?_ ?_; focus rfl)|rfl)
   all_goals exact cW rfl (cW rfl trivial)
 ·have hd:decide ((j:Int) < (o.cs.length:Int))=false:=decide_eq_false (by omega)
  have hpl:sV id o.cs=j:=tN o.cs j hj1 hj2 (fun y hy=>by have:=c6 hy; omega)
  repeat' (first|(simp only [cM,cU,dC,hd,hd,hd,hj0,Off.s,d5,Cs.s,Cs.p,c8,cZ,aB,aF,x7,xT,↓wA,↓wC,wB,cQ,cP,bA,bB,bC,reduceIte,reduceCtorEq,aA,bD,dJ])|(with_reducible refine cV hb ?_)|(with_reducible refine cV ?_ ?_; focus (simp only [eA]; omega))|((first|apply cJ|apply cK|apply cI)<;>intro h<;>try simp only [h]))
  refine dF (iV 7 rfl) ?_
  simp only [cQ,cP,D.unown,↓wA,↓wC,wB,cQ,cP,bA,bB,bC,reduceIte,reduceCtorEq,aA,bD,dJ]
  repeat' (first|(simp only [cM,cU,c8,cZ,↓wA,↓wC,wB,cQ,cP,bA,bB,bC,reduceIte,reduceCtorEq,aA,bD,dJ])|(refine dN ?_)|(with_reducible refine aE ?_ ?_)|(with_reducible refine cV ?_ ?_; focus (simp only [eA]; omega))|((first|apply cJ|apply cK|apply cI)<;>intro h<;>try simp only [h]))
  have hs1:(dl Cs.s o.cs).sub 0 j=dl Cs.s (o.cs.take j):=by rw [rA]; rfl
  have hs2:(dl Cs.s o.cs).sub j o.cs.length=dl Cs.s (o.cs.drop j):=by rw [rA,aH]
  have happ:∀ xs:List Cs,(dl Cs.s xs).app (D.cons (D.st (.cons (.int .i64 id) (.cons (.int .i64 a) (.cons (.int .i64 (o.day + v)) (.cons (.sl false 1 .nil) .nil))))) .nil)=dl Cs.s (xs ++ [⟨id,a,o.day + v,[]⟩]):=fun xs=>iT (f:=Cs.s) xs ⟨id,a,o.day + v,[]⟩
  have hen:jQ ⟨id,a,o.day + v,[]⟩ o.cs=(o.cs.take j ++ [⟨id,a,o.day + v,[]⟩]) ++ o.cs.drop j:=by unfold jQ; rw [hpl]; simp
  rw [hen]
  clear hen
  simp only [aB,hs1,hs2,happ,zJ,cU,aO,aQ,aR,aM,aJ hj1]
  repeat' (first|(with_reducible refine aE ?_ ?_)|(with_reducible refine cW ?_ ?_; focus omega)|(with_reducible refine cW ?_ ?_; focus (simp; done))|(with_reducible refine cW ?_ ?_; focus rfl)|rfl)
  all_goals exact cW rfl (cW rfl trivial)
def aB6 (v:Int) (h:List Int):List Int:=h.filter fun n=>!decide (n=v)
theorem aJ5 {v r:Int} {h:List Int} {k:Nat} (hr:h[k]?=some r):aB6 v (h.take (k + 1))=aB6 v (h.take k) ++ (if r=v then [] else [r]):=by
 rw [fY hr]
 unfold aB6
 rw [List.filter_append]
 by_cases e:r=v
 ·simp [e]
 ·simp [e]
theorem aL5 {v r:Int} {h:List Int} {k:Nat} (hr:h[k]?=some r):(h.take (k + 1)).contains v=((h.take k).contains v || decide (v=r)):=by
 rw [fY hr]
 simp [List.contains_eq_any_beq,List.any_append]
theorem aOk (v:Int) (h:List Int):(aB6 v h).length<=h.length:=aW _ _
theorem aE2 (o:Off) (v:Int) (ho:o.ok0):Fn prog 174 [o.s,.int .i64 v] (fun rs=>rs=[Off.w { o with cs:=o.cs.map (v7 v) },.bool (yG v o.cs)]):=by
 have hO:=lJ o ho
 have hno:o.w.noOwn=false:=by simp [Off.w,d5,D.noOwn]
 have hwV:o.w.isV=true:=rfl
 have hwS:o.w.size=5:=rfl
 have hlen:=ho.1.1
 refine c7 aT6 [[1,1,0,1,0,0,1,0,0,1,1],[1,1,0,0],[1,1,1,0]] ?_
 dsimp only [aT6,cY,dD]
 repeat' (first|(simp only [aZw,aZx,aZB,hno,hwV,hwS,↓dK,cM,↓wA,↓wC,wB,cQ,cP,bA,bB,bC,reduceIte,reduceCtorEq,aA,bD,dJ])|(refine cO hO (by simp [dH,dQ,aZv]) rfl ?_)|((first|apply cJ|apply cK|apply cI)<;>intro h<;>try simp only [h]))
 simp only [Off.w,d5]
 refine fG _ (f8 3 none [1] (es:=4) (xs:=dl Cs.s o.cs) rfl rfl) fun v1=>?_
 simp only [eS,cM,cU,↓wA,↓wC,wB,cQ,cP,bA,bB,bC,reduceIte,reduceCtorEq,aA,bD,dJ]
 refine dU o.cs.length (fun i:Nat=>⟨[(1,.d (.int .i64 v)),(4,.ptr 1 0 []),(6,.ptr 3 0 []),(7,.d (.bool (yG v (o.cs.take i)))),(8,.d (.int .i64 i))],[.box o.s,.box zO,.dead,.box (d5 o (.lnk 5 v1) (.sl true 1 (dl D.str o.led))),.val (.sl true 4 (dl Cs.s (vF v o.cs i))),.tag 4 v1]⟩) (fun _=>True) ?_ trivial ?_ ?_
 ·exact (cX _ rfl ⟨⟨rfl,rfl⟩,⟨rfl,rfl⟩,⟨rfl,rfl⟩,⟨rfl,rfl⟩,⟨rfl,rfl⟩,trivial⟩)
 ·intro i hlt _ hd h0
  obtain ⟨x,hr⟩:=dS hlt
  have hg:=aJe (v:=v) hr
  have hxo:=ho.1.2 x (aG hr)
  have hxl:x.h.length<=1048576:=hxo
  have hxs:Cs.s x=x.p (.sl false 1 (dl iD x.h)):=rfl
  have hgs:∀ (y:D),((dl Cs.s (vF v o.cs i)).setN i y).nth i=some y:=fun y=>by rw [rB,if_pos rfl,dC,hg]; rfl
  have hgn:(dl Cs.s (vF v o.cs i)).nth i=some (x.p (.sl false 1 (dl iD x.h))):=by rw [dC,hg]; rfl
  have hx:=aFy (v:=v) hr
  simp only [d5]
  repeat' (first|(simp only [cU,n9,hd,h0,cM,↓wA,↓wC,wB,cQ,cP,bA,bB,bC,reduceIte,reduceCtorEq,aA,bD,dJ])|((first|apply cJ|apply cK|apply cI)<;>intro h<;>try simp only [h]))
  refine dU x.h.length (fun k:Nat=>⟨[(1,.d (.int .i64 v)),(4,.ptr 1 0 []),(6,.ptr 3 0 []),(7,.d (.bool (yG v (o.cs.take i) || (x.h.take k).contains v))),(8,.d (.int .i64 i)),(9,.own 6),(10,.d (.int .i64 k))],[.box o.s,.box zO,.dead,.box (d5 o (.lnk 5 v1) (.sl true 1 (dl D.str o.led))),.val (.sl true 4 (dl Cs.s (vF v o.cs i))),.tag 4 v1,.val (.sl true 1 (dl iD (aB6 v (x.h.take k))))]⟩) (fun _=>True) ?_ trivial ?_ ?_
  ·rw [List.take_zero,show ([]:List Int).contains v=false from rfl,a7]
   exact (cX _ rfl ⟨⟨rfl,rfl⟩,⟨rfl,rfl⟩,⟨rfl,rfl⟩,⟨rfl,rfl⟩,⟨rfl,rfl⟩,⟨rfl,rfl⟩,⟨rfl,rfl⟩,trivial⟩)
  ·intro k hk _ hkd hk0
   obtain ⟨r,hkr⟩:=dS hk
   have hlx:=aJ5 (v:=v) hkr
   have hhx:=aL5 (v:=v) hkr
   simp only [d5]
   cases hrv:decide (r=v) with
   | true =>
    have hrv':=of_decide_eq_true hrv
    rw [if_pos hrv',List.append_nil] at hlx
    rw [decide_eq_true hrv'.symm,a8] at hhx
    repeat' (first|(simp only [cU,n9,hd,h0,hkd,hk0,hrv,hgn,dC,hkr,aB,aF,eV,dB,cM,iE,fU,fV,↓wA,↓wC,wB,cQ,cP,bA,bB,bC,reduceIte,reduceCtorEq,aA,bD,dJ])|(with_reducible refine cV ?_ ?_; focus (simp only [eA]; omega))|((first|apply cJ|apply cK|apply cI)<;>intro h<;>try simp only [h]))
    refine ⟨k + 1,?_,by omega,by omega⟩
    rw [hlx,hhx,a8]
    exact (cX _ rfl ⟨⟨rfl,rfl⟩,⟨rfl,rfl⟩,⟨rfl,rfl⟩,⟨rfl,rfl⟩,⟨rfl,rfl⟩,⟨rfl,rfl⟩,⟨rfl,rfl⟩,trivial⟩)
   | false =>
    have hrv':=of_decide_eq_false hrv
    rw [if_neg hrv'] at hlx
    rw [decide_eq_false (fun e=>hrv' e.symm),a7] at hhx
    repeat' (first|(simp only [cU,n9,hd,h0,hkd,hk0,hrv,hgn,dC,hkr,aB,aF,eV,dB,cM,iE,fU,fV,↓wA,↓wC,wB,cQ,cP,bA,bB,bC,reduceIte,reduceCtorEq,aA,bD,dJ])|(with_reducible refine cV ?_ ?_; focus (simp only [eA]; omega))|((first|apply cJ|apply cK|apply cI)<;>intro h<;>try simp only [h]))
    have hll:=aOk v (x.h.take k)
    have hlt2:(x.h.take k).length<=k:=by simp; omega
    refine cW (by simp) ?_
    refine cW (by omega) ?_
    refine cV (by simp only [eA]; omega) ?_
    have happ:(dl iD (aB6 v (x.h.take k))).app (D.cons (.int .i64 r) .nil)=dl iD (aB6 v (x.h.take (k + 1))):=(iT (f:=iD) _ r).trans (by rw [hlx])
    rw [happ]
    refine ⟨k + 1,?_,by omega,by omega⟩
    rw [hhx]
    exact (cX _ rfl ⟨⟨rfl,rfl⟩,⟨rfl,rfl⟩,⟨rfl,rfl⟩,⟨rfl,rfl⟩,⟨rfl,rfl⟩,⟨rfl,rfl⟩,⟨rfl,rfl⟩,trivial⟩)
  ·intro _ hkd
   rw [aH]
   simp only [d5]
   repeat' (first|(simp only [cU,n9,hd,h0,hkd,hgn,dC,aB,aF,dB,cM,iE,fU,fV,↓wA,↓wC,wB,cQ,cP,bA,bB,bC,reduceIte,reduceCtorEq,aA,bD,dJ])|((first|apply cJ|apply cK|apply cI)<;>intro h<;>try simp only [h]))
   refine dF (aJw 6 rfl) ?_
   simp only [lA,kD,D.unown,dW,↓wA,↓wC,wB,cQ,cP,bA,bB,bC,reduceIte,reduceCtorEq,aA,bD,dJ]
   repeat' (first|(simp only [cU,n9,hd,h0,hgn,hgs,fW,dC,aB,aF,dB,cM,iE,fU,fV,↓wA,↓wC,wB,cQ,cP,bA,bB,bC,reduceIte,reduceCtorEq,aA,bD,dJ])|(with_reducible refine cV ?_ ?_; focus (simp only [eA]; omega))|((first|apply cJ|apply cK|apply cI)<;>intro h<;>try simp only [h]))
   have e:x.p (.sl false 1 (dl iD (aB6 v x.h)))=Cs.s (v7 v x):=rfl
   rw [e,kZ,aDW hr]
   refine ⟨i + 1,?_,by omega,by omega⟩
   rw [hx]
   exact (cX _ rfl ⟨⟨rfl,rfl⟩,⟨rfl,rfl⟩,⟨rfl,rfl⟩,⟨rfl,rfl⟩,⟨rfl,rfl⟩,trivial⟩)
 ·intro _ hd
  have er:vF v o.cs o.cs.length=o.cs.map (v7 v):=by simp [vF]
  rw [er,aH]
  simp only [d5]
  repeat' (first|(simp only [cU,List.length_map,hd,cM,↓wA,↓wC,wB,cQ,cP,bA,bB,bC,reduceIte,reduceCtorEq,aA,bD,dJ])|((first|apply cJ|apply cK|apply cI)<;>intro h<;>try simp only [h]))
  refine dF (i7 3 5 4 none [1] rfl rfl rfl rfl (by decide) rfl) ?_
  simp only [eS,↓wA,↓wC,wB,cQ,cP,bA,bB,bC,reduceIte,reduceCtorEq,aA,bD,dJ]
  repeat' (first|(simp only [cZ,cM,↓wA,↓wC,wB,cQ,cP,bA,bB,bC,reduceIte,reduceCtorEq,aA,bD,dJ])|((first|apply cJ|apply cK|apply cI)<;>intro h<;>try simp only [h]))
  exact cW rfl (cW rfl trivial)
theorem aNT (v:List Int) (p:Int) (hlen:v.length<=1048576) (hp:p ∉ v):Fn prog 173 [.sl false 1 (dl iD v),.int .i64 p] (fun rs=>rs=[.sl true 1 (dl iD (lZ p v))]):=by
 refine c7 aUw [] ?_
 dsimp only [aUw,cY,dD]
 simp only [↓wA,↓wC,wB,cQ,cP,bA,bB,bC,reduceIte,reduceCtorEq,aA,bD]
 refine eM (fun k:Nat=>⟨[(0,.d (.sl false 1 (dl iD v))),(1,.d (.int .i64 p)),(5,.d (.int .i64 k))],[]⟩) (fun k=>k<=v.length/\∀ m x,m < k->v[m]?=some x->x < p) (fun k=>v.length - k) 0 (cX _ rfl ⟨⟨rfl,rfl⟩,⟨rfl,rfl⟩,⟨rfl,rfl⟩,trivial⟩) ⟨by omega,fun m x hm _=>by omega⟩ ?_
 rintro k ⟨hk,hinv⟩
 have h0:(0:Int)<=(k:Int):=by omega
 have hs1:(dl iD v).sub 0 k=dl iD (v.take k):=by rw [rA]; rfl
 have hs2:(dl iD v).sub k v.length=dl iD (v.drop k):=by rw [rA,aH]
 have hs3:(dl iD v).sub v.length v.length=dl iD (v.drop v.length):=by rw [rA,aH]
 have hs4:(dl iD v).sub 0 v.length=dl iD (v.take v.length):=by rw [rA]; rfl
 by_cases hlt:k < v.length
 ·obtain ⟨x,hx⟩:=dS hlt
  have hd:decide ((k:Int) < (v.length:Int))=true:=decide_eq_true (by omega)
  cases hc:decide (x < p) with
  | true =>
   repeat' (first|(simp only [cU,hd,h0,hc,dC,aB,hx,aF,eV,cM,↓wA,↓wC,wB,cQ,cP,bA,bB,bC,reduceIte,reduceCtorEq,aA,bD])|(with_reducible refine cV ?_ ?_; focus (simp only [eA]; omega))|((first|apply cJ|apply cK|apply cI)<;>intro h<;>try simp only [h]))
   refine ⟨k + 1,(cX _ rfl ⟨⟨rfl,rfl⟩,⟨rfl,rfl⟩,⟨rfl,rfl⟩,trivial⟩),⟨by omega,fun m z hm hz=>?_⟩,by omega⟩
   by_cases e:m=k
   ·subst e
    rw [hx] at hz
    injection hz with hz
    rw [<- hz]
    exact of_decide_eq_true hc
   ·exact hinv m z (by omega) hz
  | false =>
   have hpos:=aGR v k hk hinv (fun z hz=>by
    rw [hx] at hz
    injection hz with hz
    rw [<- hz]
    exact of_decide_eq_false hc)
   have hne:decide (x=p)=false:=decide_eq_false (fun e=>hp (e ▸ aG hx))
   rw [lZ,hpos]
   repeat' (first|(simp only [cU,hd,h0,hc,hne,dC,aB,hx,aF,eV,cM,↓wA,↓wC,wB,cQ,cP,bA,bB,bC,reduceIte,reduceCtorEq,aA,bD])|(refine dN ?_)|(with_reducible refine aE ?_ ?_)|(with_reducible refine cW ?_ ?_; focus omega)|(with_reducible refine cW ?_ ?_; focus (simp; done))|(with_reducible refine cW ?_ ?_; focus (simp; omega))|(with_reducible refine cV ?_ ?_; focus (simp only [eA]; omega))|((first|apply cJ|apply cK|apply cI)<;>intro h<;>try simp only [h]))
   all_goals
    simp only [hs1,hs2,g7,zJ,cU,aO,aQ,aR,aM,aJ hk]
    repeat' (first|(with_reducible refine cW ?_ ?_; focus omega)|(with_reducible refine cW ?_ ?_; focus (simp; done)))
    all_goals simp [a6]
 ·have hd:decide ((k:Int) < (v.length:Int))=false:=decide_eq_false (by omega)
  have e:k=v.length:=by omega
  have hpos:=aGR v k hk hinv (fun z hz=>absurd (c6 hz) (by omega))
  rw [lZ,hpos]
  subst e
  repeat' (first|(simp only [cU,hd,h0,aB,eV,cM,↓wA,↓wC,wB,cQ,cP,bA,bB,bC,reduceIte,reduceCtorEq,aA,bD])|(refine dN ?_)|(with_reducible refine aE ?_ ?_)|(with_reducible refine cW ?_ ?_; focus omega)|(with_reducible refine cW ?_ ?_; focus (simp; done))|(with_reducible refine cW ?_ ?_; focus (simp; omega))|(with_reducible refine cV ?_ ?_; focus (simp only [eA]; omega))|((first|apply cJ|apply cK|apply cI)<;>intro h<;>try simp only [h]))
  all_goals
   simp only [hs3,hs4,g7,zJ,cU,aO,aQ,aR,aM,aJ hk]
   repeat' (first|(with_reducible refine cW ?_ ?_; focus omega)|(with_reducible refine cW ?_ ?_; focus (simp; done)))
   all_goals simp [a6]
def aCp (o:Off) (x:Cs) (i:Nat) (a:Nat) (l:List Ob):St:=⟨[(1,.d (.int .i64 i)),(2,.d (.ptr o.s)),(4,.ptr 1 0 []),(6,.ptr a 0 []),(7,.d (.ptr x.s))],.dead :: .box zO :: (l ++ [.box (d5 o (.sl true 4 (dl Cs.s o.cs)) (.sl true 1 (dl D.str o.led)))])⟩
theorem aEk {s:St} (q:Nat) {x y:D} (hq:s.o[q]?=some (.box x)) (hy:x.unown=y):gJ s ⟨cQ q y s.e,s.o.set q .dead⟩:=hy ▸ iV q hq
theorem aMl (o:Off) (i:Nat) (x:Cs) (ho:dV o=true) (hr:o.cs[i]?=some x):Fn prog 175 [o.s,.int .i64 i] (fun rs=>rs=[(mP o i x).w,.bool (eU o x && dV (mP o i x))]):=by
 have ho0:=fI ho
 have hp:=eT ho
 have hO:=lJ o ho0
 have hno:o.w.noOwn=false:=by simp [Off.w,d5,D.noOwn]
 have hwV:o.w.isV=true:=rfl
 have hwS:o.w.size=5:=rfl
 have h0:(0:Int)<=(i:Int):=by omega
 refine c7 aUg [[1,1,1,0,1,0,1,1,1,1,0],[1,1,0],[1,0]] ?_
 dsimp only [aUg,cY,dD]
 repeat' (first|(simp only [aZw,aZx,aZB,hno,hwV,hwS,↓dK,cM,↓wA,↓wC,wB,cQ,cP,bA,bB,bC,reduceIte,reduceCtorEq,aA,bD,dJ])|((first|apply cJ|apply cK|apply cI)<;>intro h<;>try simp only [h]))
 refine dF (iV 0 rfl) ?_
 simp only [cQ,cP,aZv,↓wA,↓wC,wB,cQ,cP,bA,bB,bC,reduceIte,reduceCtorEq,aA,bD,dJ]
 have hfa:∀ K:SV->Prop,dL 1 1 (.d (.ptr o.s)) K=K (.d (.ptr (.sl false 4 (dl Cs.s o.cs)))):=fun K=>by simp [Off.s,d5,dL,D.pre,D.nth,D.size]
 simp only [hfa,hr,h0,cU,dC,aB,aF,c8,aZw,aZx,aZB,hno,hwV,hwS,↓dK,↓iN,cM,aZE,aZD,↓wA,↓wC,wB,cQ,cP,bA,bB,bC,reduceIte,reduceCtorEq,aA,bD,dJ]
 refine aQh (fun s=>gJ s (aCp o x i 2 [])\/gJ s (aCp o x i 3 [.dead])\/gJ s (aCp o x i 4 [.dead,.dead])) ?_ ?_
 ·repeat' (first
   |(with_reducible refine aE ?_ ?_)
   |(refine cO hO (by simp [dH,dQ,aZv]) rfl ?_)
   |(refine cR hO (by simp [dH,dQ,aZv]) rfl ?_)
   |(simp only [hno,hwV,hwS,aZw,aZx,aZB,aZG,aZE,aZD,cM,↓wA,↓wC,wB,cQ,cP,bA,bB,bC,reduceIte,reduceCtorEq,aA,bD,dJ]))
  all_goals (first
   | exact .inl ((aEk 3 rfl (aZF x)).trans (cX _ rfl ⟨⟨rfl,rfl⟩,⟨rfl,rfl⟩,⟨rfl,rfl⟩,⟨rfl,rfl⟩,⟨rfl,rfl⟩,trivial⟩))
   | exact .inl ((aEk 4 rfl (aZF x)).trans (cX _ rfl ⟨⟨rfl,rfl⟩,⟨rfl,rfl⟩,⟨rfl,rfl⟩,⟨rfl,rfl⟩,⟨rfl,rfl⟩,trivial⟩))
   | exact .inr (.inl ((aEk 2 rfl (aZF x)).trans (cX _ rfl ⟨⟨rfl,rfl⟩,⟨rfl,rfl⟩,⟨rfl,rfl⟩,⟨rfl,rfl⟩,⟨rfl,rfl⟩,trivial⟩)))
   | exact .inr (.inl ((aEk 4 rfl (aZF x)).trans (cX _ rfl ⟨⟨rfl,rfl⟩,⟨rfl,rfl⟩,⟨rfl,rfl⟩,⟨rfl,rfl⟩,⟨rfl,rfl⟩,trivial⟩)))
   | exact .inr (.inr ((aEk 2 rfl (aZF x)).trans (cX _ rfl ⟨⟨rfl,rfl⟩,⟨rfl,rfl⟩,⟨rfl,rfl⟩,⟨rfl,rfl⟩,⟨rfl,rfl⟩,trivial⟩)))
   | exact .inr (.inr ((aEk 3 rfl (aZF x)).trans (cX _ rfl ⟨⟨rfl,rfl⟩,⟨rfl,rfl⟩,⟨rfl,rfl⟩,⟨rfl,rfl⟩,⟨rfl,rfl⟩,trivial⟩))))
 ·have hil:=c6 hr
  have hfx:∀ K:SV->Prop,dL 1 1 (.d (.ptr x.s)) K=K (.d (.ptr (.int .i64 x.a))):=fun K=>by simp [Cs.s,Cs.p,dL,D.pre,D.nth,D.size]
  have hf2:∀ K:SV->Prop,dL 2 2 (.d (.ptr o.s)) K=K (.d (.ptr (.int .i64 o.kept))):=fun K=>by simp [Off.s,d5,dL,D.pre,D.nth,D.size]
  have hf3:∀ K:SV->Prop,dL 3 3 (.d (.ptr o.s)) K=K (.d (.ptr (.int .i64 o.moved))):=fun K=>by simp [Off.s,d5,dL,D.pre,D.nth,D.size]
  have hf0:∀ K:SV->Prop,dL 0 0 (.d (.ptr o.s)) K=K (.d (.ptr (.int .i64 o.day))):=fun K=>by simp [Off.s,d5,dL,D.pre,D.nth,D.size]
  have hx2:∀ K:SV->Prop,dL 2 2 (.d (.ptr x.s)) K=K (.d (.ptr (.int .i64 x.d))):=fun K=>by simp [Cs.s,Cs.p,dL,D.pre,D.nth,D.size]
  have hx0:∀ K:SV->Prop,dL 0 0 (.d (.ptr x.s)) K=K (.d (.ptr (.int .i64 x.i))):=fun K=>by simp [Cs.s,Cs.p,dL,D.pre,D.nth,D.size]
  have hx3:∀ K:SV->Prop,dL 3 3 (.d (.ptr x.s)) K=K (.d (.ptr (.sl false 1 (dl iD x.h)))):=fun K=>by simp [Cs.s,Cs.p,dL,D.pre,D.nth,D.size]
  have hs1:(dl Cs.s o.cs).sub 0 i=dl Cs.s (o.cs.take i):=by rw [rA]; rfl
  have hs2:(dl Cs.s o.cs).sub (i + 1) o.cs.length=dl Cs.s (o.cs.drop (i + 1)):=by rw [rA,aH]
  have htn:((i:Int) + 1).toNat=i + 1:=by omega
  have happ:(dl Cs.s (o.cs.take i)).app (dl Cs.s (o.cs.drop (i + 1)))=dl Cs.s (o.cs.eraseIdx i):=by rw [zJ,List.eraseIdx_eq_take_drop_succ]
  have hl1:(o.cs.take i).length=i:=by simp; omega
  have hl2:(o.cs.drop (i + 1)).length=o.cs.length - (i + 1):=by simp
  have hok:(mP o i x).ok0:=by
   have hle:xY (o.cs.eraseIdx i):=⟨by have:=aT o.cs i; omega,fun y hy=>ho0.1.2 y (aS hy)⟩
   unfold mP
   split
   ·exact ⟨hle,ho0.2⟩
   ·split
    ·exact ⟨hle,ho0.2⟩
    ·refine ⟨hle,by simp; omega,fun s hs=>?_⟩
     have hxc:=fT (hp.2.2.2.2.2.2.2.2.2 x (aG hr))
     rcases aU.1 hs with hs|hs
     ·exact ho0.2.2 s hs
     ·rw [aY.1 hs]
      have h1:=eJ x.i (by simp only [eA]; omega)
      have h2:=eJ o.day (by simp only [eA]; omega)
      simp [nM]; omega
  have hG:=gT (mP o i x) hok
  cases k1:decide (x.a=1) with
  | true =>
   have ha:=k1
   have k2:=k1
   have hu:(D.st (.cons (.int .i64 o.day) (.cons (.sl true 4 (dl Cs.s (o.cs.eraseIdx i))) (.cons (.int .i64 (o.kept + 1)) (.cons (.int .i64 o.moved) (.cons (.sl true 1 (dl D.str o.led)) .nil)))))).unown=(mP o i x).s:=by
    unfold mP
    rw [if_pos (of_decide_eq_true k1)]
    simp [Off.s,d5,D.unown,gG,fF]
   have hwE:(D.st (.cons (.int .i64 o.day) (.cons (.sl true 4 (dl Cs.s (o.cs.eraseIdx i))) (.cons (.int .i64 (o.kept + 1)) (.cons (.int .i64 o.moved) (.cons (.sl true 1 (dl D.str o.led)) .nil))))))=(mP o i x).w:=by
    unfold mP
    rw [if_pos (of_decide_eq_true k1)]
    rfl
   rintro s' (h|h|h)
   ·refine ⟨_,h,?_⟩
    simp only [aCp,aC,aD,↓wA,↓wC,wB,cQ,cP,bA,bB,bC,reduceIte,reduceCtorEq,aA,bD,dJ]
    refine dF (freeze 2 none [1] (x:=.sl true 4 (dl Cs.s o.cs)) rfl rfl rfl) ?_
    simp only [eS,d5,D.unown,gG,↓wA,↓wC,wB,cQ,cP,bA,bB,bC,reduceIte,reduceCtorEq,aA,bD,dJ]
    cases hdd:decide (x.d<=o.day) with
    | true =>
     have hdb:eU o x=true:=by simp [eU,of_decide_eq_true hdd,of_decide_eq_true k1]
     repeat' (first|(simp only [cM,dZ,cU,c8,cZ,hfx,hf0,hf2,hf3,hx0,hx2,hx3,aB,htn,hs1,hs2,happ,hl1,hl2,ha,hdd,k1,k2,↓wA,↓wC,wB,cQ,cP,bA,bB,bC,reduceIte,reduceCtorEq,aA,bD,dJ])|(refine dN ?_)|(with_reducible refine aE ?_ ?_)|(with_reducible refine cW ?_ ?_; focus omega)|(with_reducible refine cV ?_ ?_; focus (simp only [eA]; omega))|(refine cO hG (congrArg (fun d:D=>some [d]) hu) rfl ?_)|(refine cR hG (congrArg (fun d:D=>some [d]) hu) rfl ?_)|((first|apply cJ|apply cK|apply cI)<;>intro h<;>try simp only [h]))
     all_goals (refine cW rfl ?_; rw [hwE,hdb,aK])
    | false =>
     have hdb:eU o x=false:=by simp [eU,of_decide_eq_false hdd]
     repeat' (first|(simp only [cM,dZ,cU,c8,cZ,hfx,hf0,hf2,hf3,hx0,hx2,hx3,aB,htn,hs1,hs2,happ,hl1,hl2,ha,hdd,k1,k2,↓wA,↓wC,wB,cQ,cP,bA,bB,bC,reduceIte,reduceCtorEq,aA,bD,dJ])|(refine dN ?_)|(with_reducible refine aE ?_ ?_)|(with_reducible refine cW ?_ ?_; focus omega)|(with_reducible refine cV ?_ ?_; focus (simp only [eA]; omega))|(refine cO hG (congrArg (fun d:D=>some [d]) hu) rfl ?_)|(refine cR hG (congrArg (fun d:D=>some [d]) hu) rfl ?_)|((first|apply cJ|apply cK|apply cI)<;>intro h<;>try simp only [h]))
     all_goals (refine cW rfl ?_; rw [hwE,hdb,aI])
   ·refine ⟨_,h,?_⟩
    simp only [aCp,aC,aD,↓wA,↓wC,wB,cQ,cP,bA,bB,bC,reduceIte,reduceCtorEq,aA,bD,dJ]
    refine dF (freeze 3 none [1] (x:=.sl true 4 (dl Cs.s o.cs)) rfl rfl rfl) ?_
    simp only [eS,d5,D.unown,gG,↓wA,↓wC,wB,cQ,cP,bA,bB,bC,reduceIte,reduceCtorEq,aA,bD,dJ]
    cases hdd:decide (x.d<=o.day) with
    | true =>
     have hdb:eU o x=true:=by simp [eU,of_decide_eq_true hdd,of_decide_eq_true k1]
     repeat' (first|(simp only [cM,dZ,cU,c8,cZ,hfx,hf0,hf2,hf3,hx0,hx2,hx3,aB,htn,hs1,hs2,happ,hl1,hl2,ha,hdd,k1,k2,↓wA,↓wC,wB,cQ,cP,bA,bB,bC,reduceIte,reduceCtorEq,aA,bD,dJ])|(refine dN ?_)|(with_reducible refine aE ?_ ?_)|(with_reducible refine cW ?_ ?_; focus omega)|(with_reducible refine cV ?_ ?_; focus (simp only [eA]; omega))|(refine cO hG (congrArg (fun d:D=>some [d]) hu) rfl ?_)|(refine cR hG (congrArg (fun d:D=>some [d]) hu) rfl ?_)|((first|apply cJ|apply cK|apply cI)<;>intro h<;>try simp only [h]))
     all_goals (refine cW rfl ?_; rw [hwE,hdb,aK])
    | false =>
     have hdb:eU o x=false:=by simp [eU,of_decide_eq_false hdd]
     repeat' (first|(simp only [cM,dZ,cU,c8,cZ,hfx,hf0,hf2,hf3,hx0,hx2,hx3,aB,htn,hs1,hs2,happ,hl1,hl2,ha,hdd,k1,k2,↓wA,↓wC,wB,cQ,cP,bA,bB,bC,reduceIte,reduceCtorEq,aA,bD,dJ])|(refine dN ?_)|(with_reducible refine aE ?_ ?_)|(with_reducible refine cW ?_ ?_; focus omega)|(with_reducible refine cV ?_ ?_; focus (simp only [eA]; omega))|(refine cO hG (congrArg (fun d:D=>some [d]) hu) rfl ?_)|(refine cR hG (congrArg (fun d:D=>some [d]) hu) rfl ?_)|((first|apply cJ|apply cK|apply cI)<;>intro h<;>try simp only [h]))
     all_goals (refine cW rfl ?_; rw [hwE,hdb,aI])
   ·refine ⟨_,h,?_⟩
    simp only [aCp,aC,aD,↓wA,↓wC,wB,cQ,cP,bA,bB,bC,reduceIte,reduceCtorEq,aA,bD,dJ]
    refine dF (freeze 4 none [1] (x:=.sl true 4 (dl Cs.s o.cs)) rfl rfl rfl) ?_
    simp only [eS,d5,D.unown,gG,↓wA,↓wC,wB,cQ,cP,bA,bB,bC,reduceIte,reduceCtorEq,aA,bD,dJ]
    cases hdd:decide (x.d<=o.day) with
    | true =>
     have hdb:eU o x=true:=by simp [eU,of_decide_eq_true hdd,of_decide_eq_true k1]
     repeat' (first|(simp only [cM,dZ,cU,c8,cZ,hfx,hf0,hf2,hf3,hx0,hx2,hx3,aB,htn,hs1,hs2,happ,hl1,hl2,ha,hdd,k1,k2,↓wA,↓wC,wB,cQ,cP,bA,bB,bC,reduceIte,reduceCtorEq,aA,bD,dJ])|(refine dN ?_)|(with_reducible refine aE ?_ ?_)|(with_reducible refine cW ?_ ?_; focus omega)|(with_reducible refine cV ?_ ?_; focus (simp only [eA]; omega))|(refine cO hG (congrArg (fun d:D=>some [d]) hu) rfl ?_)|(refine cR hG (congrArg (fun d:D=>some [d]) hu) rfl ?_)|((first|apply cJ|apply cK|apply cI)<;>intro h<;>try simp only [h]))
     all_goals (refine cW rfl ?_; rw [hwE,hdb,aK])
    | false =>
     have hdb:eU o x=false:=by simp [eU,of_decide_eq_false hdd]
     repeat' (first|(simp only [cM,dZ,cU,c8,cZ,hfx,hf0,hf2,hf3,hx0,hx2,hx3,aB,htn,hs1,hs2,happ,hl1,hl2,ha,hdd,k1,k2,↓wA,↓wC,wB,cQ,cP,bA,bB,bC,reduceIte,reduceCtorEq,aA,bD,dJ])|(refine dN ?_)|(with_reducible refine aE ?_ ?_)|(with_reducible refine cW ?_ ?_; focus omega)|(with_reducible refine cV ?_ ?_; focus (simp only [eA]; omega))|(refine cO hG (congrArg (fun d:D=>some [d]) hu) rfl ?_)|(refine cR hG (congrArg (fun d:D=>some [d]) hu) rfl ?_)|((first|apply cJ|apply cK|apply cI)<;>intro h<;>try simp only [h]))
     all_goals (refine cW rfl ?_; rw [hwE,hdb,aI])
  | false =>
   have k1':=of_decide_eq_false k1
   cases k2:decide (x.a=2) with
   | true =>
    have ha:=k2
    have hu:(D.st (.cons (.int .i64 o.day) (.cons (.sl true 4 (dl Cs.s (o.cs.eraseIdx i))) (.cons (.int .i64 o.kept) (.cons (.int .i64 (o.moved + 1)) (.cons (.sl true 1 (dl D.str o.led)) .nil)))))).unown=(mP o i x).s:=by
     unfold mP
     rw [if_neg k1',if_pos (of_decide_eq_true k2)]
     simp [Off.s,d5,D.unown,gG,fF]
    have hwE:(D.st (.cons (.int .i64 o.day) (.cons (.sl true 4 (dl Cs.s (o.cs.eraseIdx i))) (.cons (.int .i64 o.kept) (.cons (.int .i64 (o.moved + 1)) (.cons (.sl true 1 (dl D.str o.led)) .nil))))))=(mP o i x).w:=by
     unfold mP
     rw [if_neg k1',if_pos (of_decide_eq_true k2)]
     rfl
    rintro s' (h|h|h)
    ·refine ⟨_,h,?_⟩
     simp only [aCp,aC,aD,↓wA,↓wC,wB,cQ,cP,bA,bB,bC,reduceIte,reduceCtorEq,aA,bD,dJ]
     refine dF (freeze 2 none [1] (x:=.sl true 4 (dl Cs.s o.cs)) rfl rfl rfl) ?_
     simp only [eS,d5,D.unown,gG,↓wA,↓wC,wB,cQ,cP,bA,bB,bC,reduceIte,reduceCtorEq,aA,bD,dJ]
     cases hdd:decide (x.d<=o.day) with
     | true =>
      have hdb:eU o x=true:=by simp [eU,of_decide_eq_true hdd,of_decide_eq_true k2]
      repeat' (first|(simp only [cM,dZ,cU,c8,cZ,hfx,hf0,hf2,hf3,hx0,hx2,hx3,aB,htn,hs1,hs2,happ,hl1,hl2,ha,hdd,k1,k2,↓wA,↓wC,wB,cQ,cP,bA,bB,bC,reduceIte,reduceCtorEq,aA,bD,dJ])|(refine dN ?_)|(with_reducible refine aE ?_ ?_)|(with_reducible refine cW ?_ ?_; focus omega)|(with_reducible refine cV ?_ ?_; focus (simp only [eA]; omega))|(refine cO hG (congrArg (fun d:D=>some [d]) hu) rfl ?_)|(refine cR hG (congrArg (fun d:D=>some [d]) hu) rfl ?_)|((first|apply cJ|apply cK|apply cI)<;>intro h<;>try simp only [h]))
      all_goals (refine cW rfl ?_; rw [hwE,hdb,aK])
     | false =>
      have hdb:eU o x=false:=by simp [eU,of_decide_eq_false hdd]
      repeat' (first|(simp only [cM,dZ,cU,c8,cZ,hfx,hf0,hf2,hf3,hx0,hx2,hx3,aB,htn,hs1,hs2,happ,hl1,hl2,ha,hdd,k1,k2,↓wA,↓wC,wB,cQ,cP,bA,bB,bC,reduceIte,reduceCtorEq,aA,bD,dJ])|(refine dN ?_)|(with_reducible refine aE ?_ ?_)|(with_reducible refine cW ?_ ?_; focus omega)|(with_reducible refine cV ?_ ?_; focus (simp only [eA]; omega))|(refine cO hG (congrArg (fun d:D=>some [d]) hu) rfl ?_)|(refine cR hG (congrArg (fun d:D=>some [d]) hu) rfl ?_)|((first|apply cJ|apply cK|apply cI)<;>intro h<;>try simp only [h]))
      all_goals (refine cW rfl ?_; rw [hwE,hdb,aI])
    ·refine ⟨_,h,?_⟩
     simp only [aCp,aC,aD,↓wA,↓wC,wB,cQ,cP,bA,bB,bC,reduceIte,reduceCtorEq,aA,bD,dJ]
     refine dF (freeze 3 none [1] (x:=.sl true 4 (dl Cs.s o.cs)) rfl rfl rfl) ?_
     simp only [eS,d5,D.unown,gG,↓wA,↓wC,wB,cQ,cP,bA,bB,bC,reduceIte,reduceCtorEq,aA,bD,dJ]
     cases hdd:decide (x.d<=o.day) with
     | true =>
      have hdb:eU o x=true:=by simp [eU,of_decide_eq_true hdd,of_decide_eq_true k2]
      repeat' (first|(simp only [cM,dZ,cU,c8,cZ,hfx,hf0,hf2,hf3,hx0,hx2,hx3,aB,htn,hs1,hs2,happ,hl1,hl2,ha,hdd,k1,k2,↓wA,↓wC,wB,cQ,cP,bA,bB,bC,reduceIte,reduceCtorEq,aA,bD,dJ])|(refine dN ?_)|(with_reducible refine aE ?_ ?_)|(with_reducible refine cW ?_ ?_; focus omega)|(with_reducible refine cV ?_ ?_; focus (simp only [eA]; omega))|(refine cO hG (congrArg (fun d:D=>some [d]) hu) rfl ?_)|(refine cR hG (congrArg (fun d:D=>some [d]) hu) rfl ?_)|((first|apply cJ|apply cK|apply cI)<;>intro h<;>try simp only [h]))
      all_goals (refine cW rfl ?_; rw [hwE,hdb,aK])
     | false =>
      have hdb:eU o x=false:=by simp [eU,of_decide_eq_false hdd]
      repeat' (first|(simp only [cM,dZ,cU,c8,cZ,hfx,hf0,hf2,hf3,hx0,hx2,hx3,aB,htn,hs1,hs2,happ,hl1,hl2,ha,hdd,k1,k2,↓wA,↓wC,wB,cQ,cP,bA,bB,bC,reduceIte,reduceCtorEq,aA,bD,dJ])|(refine dN ?_)|(with_reducible refine aE ?_ ?_)|(with_reducible refine cW ?_ ?_; focus omega)|(with_reducible refine cV ?_ ?_; focus (simp only [eA]; omega))|(refine cO hG (congrArg (fun d:D=>some [d]) hu) rfl ?_)|(refine cR hG (congrArg (fun d:D=>some [d]) hu) rfl ?_)|((first|apply cJ|apply cK|apply cI)<;>intro h<;>try simp only [h]))
      all_goals (refine cW rfl ?_; rw [hwE,hdb,aI])
    ·refine ⟨_,h,?_⟩
     simp only [aCp,aC,aD,↓wA,↓wC,wB,cQ,cP,bA,bB,bC,reduceIte,reduceCtorEq,aA,bD,dJ]
     refine dF (freeze 4 none [1] (x:=.sl true 4 (dl Cs.s o.cs)) rfl rfl rfl) ?_
     simp only [eS,d5,D.unown,gG,↓wA,↓wC,wB,cQ,cP,bA,bB,bC,reduceIte,reduceCtorEq,aA,bD,dJ]
     cases hdd:decide (x.d<=o.day) with
     | true =>
      have hdb:eU o x=true:=by simp [eU,of_decide_eq_true hdd,of_decide_eq_true k2]
      repeat' (first|(simp only [cM,dZ,cU,c8,cZ,hfx,hf0,hf2,hf3,hx0,hx2,hx3,aB,htn,hs1,hs2,happ,hl1,hl2,ha,hdd,k1,k2,↓wA,↓wC,wB,cQ,cP,bA,bB,bC,reduceIte,reduceCtorEq,aA,bD,dJ])|(refine dN ?_)|(with_reducible refine aE ?_ ?_)|(with_reducible refine cW ?_ ?_; focus omega)|(with_reducible refine cV ?_ ?_; focus (simp only [eA]; omega))|(refine cO hG (congrArg (fun d:D=>some [d]) hu) rfl ?_)|(refine cR hG (congrArg (fun d:D=>some [d]) hu) rfl ?_)|((first|apply cJ|apply cK|apply cI)<;>intro h<;>try simp only [h]))
      all_goals (refine cW rfl ?_; rw [hwE,hdb,aK])
     | false =>
      have hdb:eU o x=false:=by simp [eU,of_decide_eq_false hdd]
      repeat' (first|(simp only [cM,dZ,cU,c8,cZ,hfx,hf0,hf2,hf3,hx0,hx2,hx3,aB,htn,hs1,hs2,happ,hl1,hl2,ha,hdd,k1,k2,↓wA,↓wC,wB,cQ,cP,bA,bB,bC,reduceIte,reduceCtorEq,aA,bD,dJ])|(refine dN ?_)|(with_reducible refine aE ?_ ?_)|(with_reducible refine cW ?_ ?_; focus omega)|(with_reducible refine cV ?_ ?_; focus (simp only [eA]; omega))|(refine cO hG (congrArg (fun d:D=>some [d]) hu) rfl ?_)|(refine cR hG (congrArg (fun d:D=>some [d]) hu) rfl ?_)|((first|apply cJ|apply cK|apply cI)<;>intro h<;>try simp only [h]))
      all_goals (refine cW rfl ?_; rw [hwE,hdb,aI])
   | false =>
    have k2':=of_decide_eq_false k2
    have hxc:=fT (hp.2.2.2.2.2.2.2.2.2 x (aG hr))
    have hN1:=eW x.i (by omega) (by simp only [eA]; omega)
    have hN2:=eW o.day (by omega) (by simp only [eA]; omega)
    have hI1:=eJ x.i (by simp only [eA]; omega)
    have hI2:=eJ o.day (by simp only [eA]; omega)
    have hE:114 :: (Lib.itoa x.i ++ 32 :: 100 :: Lib.itoa o.day)=nM x.i o.day:=rfl
    have hu:(D.st (.cons (.int .i64 o.day) (.cons (.sl true 4 (dl Cs.s (o.cs.eraseIdx i))) (.cons (.int .i64 o.kept) (.cons (.int .i64 o.moved) (.cons (.sl true 1 (dl D.str (o.led ++ [nM x.i o.day]))) .nil)))))).unown=(mP o i x).s:=by
     unfold mP
     rw [if_neg k1',if_neg k2']
     simp [Off.s,d5,D.unown,gG,fF]
    have hwE:(D.st (.cons (.int .i64 o.day) (.cons (.sl true 4 (dl Cs.s (o.cs.eraseIdx i))) (.cons (.int .i64 o.kept) (.cons (.int .i64 o.moved) (.cons (.sl true 1 (dl D.str (o.led ++ [nM x.i o.day]))) .nil))))))=(mP o i x).w:=by
     unfold mP
     rw [if_neg k1',if_neg k2']
     rfl
    rintro s' (h|h|h)
    ·refine ⟨_,h,?_⟩
     simp only [aCp,aC,aD,↓wA,↓wC,wB,cQ,cP,bA,bB,bC,reduceIte,reduceCtorEq,aA,bD,dJ]
     refine dF (freeze 2 none [1] (x:=.sl true 4 (dl Cs.s o.cs)) rfl rfl rfl) ?_
     simp only [eS,d5,D.unown,gG,↓wA,↓wC,wB,cQ,cP,bA,bB,bC,reduceIte,reduceCtorEq,aA,bD,dJ]
     repeat' (first|(simp only [cM,dZ,cU,c8,cZ,hfx,hf0,hf2,hf3,hx0,hx2,hx3,aB,htn,hs1,hs2,happ,hl1,hl2,k1,k2,↓wA,↓wC,wB,cQ,cP,bA,bB,bC,reduceIte,reduceCtorEq,aA,bD,dJ])|(refine dN ?_)|(with_reducible refine cW ?_ ?_; focus omega)|(with_reducible refine cV ?_ ?_; focus (simp only [eA]; omega))|((first|apply cJ|apply cK|apply cI)<;>intro h<;>try simp only [h]))
     refine fG _ (f8 2 none [4] (es:=1) (xs:=dl D.str o.led) rfl rfl) fun v2=>?_
     simp only [eS,↓wA,↓wC,wB,cQ,cP,bA,bB,bC,reduceIte,reduceCtorEq,aA,bD,dJ]
     have happ2:(dl D.str o.led).app (D.cons (.str (nM x.i o.day)) .nil)=dl D.str (o.led ++ [nM x.i o.day]):=iT (f:=D.str) o.led _
     cases hdd:decide (x.d<=o.day) with
     | true =>
      have hdb:eU o x=decide (x.h.length=0):=by simp [eU,of_decide_eq_true hdd,k1',k2']
      cases hh:decide ((x.h.length:Int)=0) with
      | true =>
       have hdb2:eU o x=true:=by rw [hdb]; have:=of_decide_eq_true hh; exact decide_eq_true (by omega)
       repeat' (first|(simp only [cM,dZ,cU,c8,cZ,dB,hfx,hf0,hf2,hf3,hx0,hx2,hx3,k1,k2,hdd,hh,hE,happ2,↓wA,↓wC,wB,cQ,cP,bA,bB,bC,reduceIte,reduceCtorEq,aA,bD,dJ])|(refine cO (hN1) rfl rfl ?_)|(refine cR (hN1) rfl rfl ?_)|(refine cO (hN2) rfl rfl ?_)|(refine cR (hN2) rfl rfl ?_)|(refine dN ?_)|(with_reducible refine aE ?_ ?_)|(with_reducible refine cW ?_ ?_; focus omega)|(with_reducible refine cW ?_ ?_; focus (simp; done))|(with_reducible refine cV ?_ ?_; focus (simp only [eA]; omega))|(refine cO hG (congrArg (fun d:D=>some [d]) hu) rfl ?_)|(refine cR hG (congrArg (fun d:D=>some [d]) hu) rfl ?_)|((first|apply cJ|apply cK|apply cI)<;>intro h<;>try simp only [h]))
       all_goals (refine cW rfl ?_; rw [hwE,hdb2,aK])
      | false =>
       have hdb2:eU o x=false:=by rw [hdb]; have:=of_decide_eq_false hh; exact decide_eq_false (by omega)
       repeat' (first|(simp only [cM,dZ,cU,c8,cZ,dB,hfx,hf0,hf2,hf3,hx0,hx2,hx3,k1,k2,hdd,hh,hE,happ2,↓wA,↓wC,wB,cQ,cP,bA,bB,bC,reduceIte,reduceCtorEq,aA,bD,dJ])|(refine cO (hN1) rfl rfl ?_)|(refine cR (hN1) rfl rfl ?_)|(refine cO (hN2) rfl rfl ?_)|(refine cR (hN2) rfl rfl ?_)|(refine dN ?_)|(with_reducible refine aE ?_ ?_)|(with_reducible refine cW ?_ ?_; focus omega)|(with_reducible refine cW ?_ ?_; focus (simp; done))|(with_reducible refine cV ?_ ?_; focus (simp only [eA]; omega))|(refine cO hG (congrArg (fun d:D=>some [d]) hu) rfl ?_)|(refine cR hG (congrArg (fun d:D=>some [d]) hu) rfl ?_)|((first|apply cJ|apply cK|apply cI)<;>intro h<;>try simp only [h]))
       all_goals (refine cW rfl ?_; rw [hwE,hdb2,aI])
     | false =>
      have hdb2:eU o x=false:=by simp [eU,of_decide_eq_false hdd]
      repeat' (first|(simp only [cM,dZ,cU,c8,cZ,dB,hfx,hf0,hf2,hf3,hx0,hx2,hx3,k1,k2,hdd,hE,happ2,↓wA,↓wC,wB,cQ,cP,bA,bB,bC,reduceIte,reduceCtorEq,aA,bD,dJ])|(refine cO (hN1) rfl rfl ?_)|(refine cR (hN1) rfl rfl ?_)|(refine cO (hN2) rfl rfl ?_)|(refine cR (hN2) rfl rfl ?_)|(refine dN ?_)|(with_reducible refine aE ?_ ?_)|(with_reducible refine cW ?_ ?_; focus omega)|(with_reducible refine cW ?_ ?_; focus (simp; done))|(with_reducible refine cV ?_ ?_; focus (simp only [eA]; omega))|(refine cO hG (congrArg (fun d:D=>some [d]) hu) rfl ?_)|(refine cR hG (congrArg (fun d:D=>some [d]) hu) rfl ?_)|((first|apply cJ|apply cK|apply cI)<;>intro h<;>try simp only [h]))
      all_goals (refine cW rfl ?_; rw [hwE,hdb2,aI])
    ·refine ⟨_,h,?_⟩
     simp only [aCp,aC,aD,↓wA,↓wC,wB,cQ,cP,bA,bB,bC,reduceIte,reduceCtorEq,aA,bD,dJ]
     refine dF (freeze 3 none [1] (x:=.sl true 4 (dl Cs.s o.cs)) rfl rfl rfl) ?_
     simp only [eS,d5,D.unown,gG,↓wA,↓wC,wB,cQ,cP,bA,bB,bC,reduceIte,reduceCtorEq,aA,bD,dJ]
     repeat' (first|(simp only [cM,dZ,cU,c8,cZ,hfx,hf0,hf2,hf3,hx0,hx2,hx3,aB,htn,hs1,hs2,happ,hl1,hl2,k1,k2,↓wA,↓wC,wB,cQ,cP,bA,bB,bC,reduceIte,reduceCtorEq,aA,bD,dJ])|(refine dN ?_)|(with_reducible refine cW ?_ ?_; focus omega)|(with_reducible refine cV ?_ ?_; focus (simp only [eA]; omega))|((first|apply cJ|apply cK|apply cI)<;>intro h<;>try simp only [h]))
     refine fG _ (f8 3 none [4] (es:=1) (xs:=dl D.str o.led) rfl rfl) fun v2=>?_
     simp only [eS,↓wA,↓wC,wB,cQ,cP,bA,bB,bC,reduceIte,reduceCtorEq,aA,bD,dJ]
     have happ2:(dl D.str o.led).app (D.cons (.str (nM x.i o.day)) .nil)=dl D.str (o.led ++ [nM x.i o.day]):=iT (f:=D.str) o.led _
     cases hdd:decide (x.d<=o.day) with
     | true =>
      have hdb:eU o x=decide (x.h.length=0):=by simp [eU,of_decide_eq_true hdd,k1',k2']
      cases hh:decide ((x.h.length:Int)=0) with
      | true =>
       have hdb2:eU o x=true:=by rw [hdb]; have:=of_decide_eq_true hh; exact decide_eq_true (by omega)
       repeat' (first|(simp only [cM,dZ,cU,c8,cZ,dB,hfx,hf0,hf2,hf3,hx0,hx2,hx3,k1,k2,hdd,hh,hE,happ2,↓wA,↓wC,wB,cQ,cP,bA,bB,bC,reduceIte,reduceCtorEq,aA,bD,dJ])|(refine cO (hN1) rfl rfl ?_)|(refine cR (hN1) rfl rfl ?_)|(refine cO (hN2) rfl rfl ?_)|(refine cR (hN2) rfl rfl ?_)|(refine dN ?_)|(with_reducible refine aE ?_ ?_)|(with_reducible refine cW ?_ ?_; focus omega)|(with_reducible refine cW ?_ ?_; focus (simp; done))|(with_reducible refine cV ?_ ?_; focus (simp only [eA]; omega))|(refine cO hG (congrArg (fun d:D=>some [d]) hu) rfl ?_)|(refine cR hG (congrArg (fun d:D=>some [d]) hu) rfl ?_)|((first|apply cJ|apply cK|apply cI)<;>intro h<;>try simp only [h]))
       all_goals (refine cW rfl ?_; rw [hwE,hdb2,aK])
      | false =>
       have hdb2:eU o x=false:=by rw [hdb]; have:=of_decide_eq_false hh; exact decide_eq_false (by omega)
       repeat' (first|(simp only [cM,dZ,cU,c8,cZ,dB,hfx,hf0,hf2,hf3,hx0,hx2,hx3,k1,k2,hdd,hh,hE,happ2,↓wA,↓wC,wB,cQ,cP,bA,bB,bC,reduceIte,reduceCtorEq,aA,bD,dJ])|(refine cO (hN1) rfl rfl ?_)|(refine cR (hN1) rfl rfl ?_)|(refine cO (hN2) rfl rfl ?_)|(refine cR (hN2) rfl rfl ?_)|(refine dN ?_)|(with_reducible refine aE ?_ ?_)|(with_reducible refine cW ?_ ?_; focus omega)|(with_reducible refine cW ?_ ?_; focus (simp; done))|(with_reducible refine cV ?_ ?_; focus (simp only [eA]; omega))|(refine cO hG (congrArg (fun d:D=>some [d]) hu) rfl ?_)|(refine cR hG (congrArg (fun d:D=>some [d]) hu) rfl ?_)|((first|apply cJ|apply cK|apply cI)<;>intro h<;>try simp only [h]))
       all_goals (refine cW rfl ?_; rw [hwE,hdb2,aI])
     | false =>
      have hdb2:eU o x=false:=by simp [eU,of_decide_eq_false hdd]
      repeat' (first|(simp only [cM,dZ,cU,c8,cZ,dB,hfx,hf0,hf2,hf3,hx0,hx2,hx3,k1,k2,hdd,hE,happ2,↓wA,↓wC,wB,cQ,cP,bA,bB,bC,reduceIte,reduceCtorEq,aA,bD,dJ])|(refine cO (hN1) rfl rfl ?_)|(refine cR (hN1) rfl rfl ?_)|(refine cO (hN2) rfl rfl ?_)|(refine cR (hN2) rfl rfl ?_)|(refine dN ?_)|(with_reducible refine aE ?_ ?_)|(with_reducible refine cW ?_ ?_; focus omega)|(with_reducible refine cW ?_ ?_; focus (simp; done))|(with_reducible refine cV ?_ ?_; focus (simp only [eA]; omega))|(refine cO hG (congrArg (fun d:D=>some [d]) hu) rfl ?_)|(refine cR hG (congrArg (fun d:D=>some [d]) hu) rfl ?_)|((first|apply cJ|apply cK|apply cI)<;>intro h<;>try simp only [h]))
      all_goals (refine cW rfl ?_; rw [hwE,hdb2,aI])
    ·refine ⟨_,h,?_⟩
     simp only [aCp,aC,aD,↓wA,↓wC,wB,cQ,cP,bA,bB,bC,reduceIte,reduceCtorEq,aA,bD,dJ]
     refine dF (freeze 4 none [1] (x:=.sl true 4 (dl Cs.s o.cs)) rfl rfl rfl) ?_
     simp only [eS,d5,D.unown,gG,↓wA,↓wC,wB,cQ,cP,bA,bB,bC,reduceIte,reduceCtorEq,aA,bD,dJ]
     repeat' (first|(simp only [cM,dZ,cU,c8,cZ,hfx,hf0,hf2,hf3,hx0,hx2,hx3,aB,htn,hs1,hs2,happ,hl1,hl2,k1,k2,↓wA,↓wC,wB,cQ,cP,bA,bB,bC,reduceIte,reduceCtorEq,aA,bD,dJ])|(refine dN ?_)|(with_reducible refine cW ?_ ?_; focus omega)|(with_reducible refine cV ?_ ?_; focus (simp only [eA]; omega))|((first|apply cJ|apply cK|apply cI)<;>intro h<;>try simp only [h]))
     refine fG _ (f8 4 none [4] (es:=1) (xs:=dl D.str o.led) rfl rfl) fun v2=>?_
     simp only [eS,↓wA,↓wC,wB,cQ,cP,bA,bB,bC,reduceIte,reduceCtorEq,aA,bD,dJ]
     have happ2:(dl D.str o.led).app (D.cons (.str (nM x.i o.day)) .nil)=dl D.str (o.led ++ [nM x.i o.day]):=iT (f:=D.str) o.led _
     cases hdd:decide (x.d<=o.day) with
     | true =>
      have hdb:eU o x=decide (x.h.length=0):=by simp [eU,of_decide_eq_true hdd,k1',k2']
      cases hh:decide ((x.h.length:Int)=0) with
      | true =>
       have hdb2:eU o x=true:=by rw [hdb]; have:=of_decide_eq_true hh; exact decide_eq_true (by omega)
       repeat' (first|(simp only [cM,dZ,cU,c8,cZ,dB,hfx,hf0,hf2,hf3,hx0,hx2,hx3,k1,k2,hdd,hh,hE,happ2,↓wA,↓wC,wB,cQ,cP,bA,bB,bC,reduceIte,reduceCtorEq,aA,bD,dJ])|(refine cO (hN1) rfl rfl ?_)|(refine cR (hN1) rfl rfl ?_)|(refine cO (hN2) rfl rfl ?_)|(refine cR (hN2) rfl rfl ?_)|(refine dN ?_)|(with_reducible refine aE ?_ ?_)|(with_reducible refine cW ?_ ?_; focus omega)|(with_reducible refine cW ?_ ?_; focus (simp; done))|(with_reducible refine cV ?_ ?_; focus (simp only [eA]; omega))|(refine cO hG (congrArg (fun d:D=>some [d]) hu) rfl ?_)|(refine cR hG (congrArg (fun d:D=>some [d]) hu) rfl ?_)|((first|apply cJ|apply cK|apply cI)<;>intro h<;>try simp only [h]))
       all_goals (refine cW rfl ?_; rw [hwE,hdb2,aK])
      | false =>
       have hdb2:eU o x=false:=by rw [hdb]; have:=of_decide_eq_false hh; exact decide_eq_false (by omega)
       repeat' (first|(simp only [cM,dZ,cU,c8,cZ,dB,hfx,hf0,hf2,hf3,hx0,hx2,hx3,k1,k2,hdd,hh,hE,happ2,↓wA,↓wC,wB,cQ,cP,bA,bB,bC,reduceIte,reduceCtorEq,aA,bD,dJ])|(refine cO (hN1) rfl rfl ?_)|(refine cR (hN1) rfl rfl ?_)|(refine cO (hN2) rfl rfl ?_)|(refine cR (hN2) rfl rfl ?_)|(refine dN ?_)|(with_reducible refine aE ?_ ?_)|(with_reducible refine cW ?_ ?_; focus omega)|(with_reducible refine cW ?_ ?_; focus (simp; done))|(with_reducible refine cV ?_ ?_; focus (simp only [eA]; omega))|(refine cO hG (congrArg (fun d:D=>some [d]) hu) rfl ?_)|(refine cR hG (congrArg (fun d:D=>some [d]) hu) rfl ?_)|((first|apply cJ|apply cK|apply cI)<;>intro h<;>try simp only [h]))
       all_goals (refine cW rfl ?_; rw [hwE,hdb2,aI])
     | false =>
      have hdb2:eU o x=false:=by simp [eU,of_decide_eq_false hdd]
      repeat' (first|(simp only [cM,dZ,cU,c8,cZ,dB,hfx,hf0,hf2,hf3,hx0,hx2,hx3,k1,k2,hdd,hE,happ2,↓wA,↓wC,wB,cQ,cP,bA,bB,bC,reduceIte,reduceCtorEq,aA,bD,dJ])|(refine cO (hN1) rfl rfl ?_)|(refine cR (hN1) rfl rfl ?_)|(refine cO (hN2) rfl rfl ?_)|(refine cR (hN2) rfl rfl ?_)|(refine dN ?_)|(with_reducible refine aE ?_ ?_)|(with_reducible refine cW ?_ ?_; focus omega)|(with_reducible refine cW ?_ ?_; focus (simp; done))|(with_reducible refine cV ?_ ?_; focus (simp only [eA]; omega))|(refine cO hG (congrArg (fun d:D=>some [d]) hu) rfl ?_)|(refine cR hG (congrArg (fun d:D=>some [d]) hu) rfl ?_)|((first|apply cJ|apply cK|apply cI)<;>intro h<;>try simp only [h]))
      all_goals (refine cW rfl ?_; rw [hwE,hdb2,aI])
end Go.Pe.Tryz
