/- Steps of an office: a step with a case; walked; Steps of an office: a step; walked; Steps of an office: the program's StepOffice; walked; Runs of steps of an office: the program's RunOffice; walked; Steps of an office: the reference's own copy; walked; Steps of an office: the reference's l25Step, l25Enter; walked; Steps of an office: the reference's l25Release; walked; A party heard, walked; A party heard as the reference has it, walked; Steps of an office: the reference's l25Act; walked -/
import Derived.Test.YtjmobminbckhjaaGreatDoorW3
import Derived.Test.YtjmobminbckhjaaGreatDoorPeD
import Derived.Test.YtjmobminbckhjaaGreatDoorMc1
import Derived.Test.YtjmobminbckhjaaGreatDoorMc2
import Derived.Test.YtjmobminbckhjaaGreatDoorMc3
import Derived.Test.YtjmobminbckhjaaGreatDoorMc4
import Derived.Test.YtjmobminbckhjaaGreatDoorMc5
import Derived.Test.YtjmobminbckhjaaGreatDoorMc6
import Derived.Test.YtjmobminbckhjaaGreatDoorMc7
import Derived.Test.YtjmobminbckhjaaGreatDoorMc8
set_option maxRecDepth 100000
set_option maxHeartbeats 4000000
set_option linter.all false
open And renaming intro->aE
open Bool renaming false_and->aI, true_and->aK, or_false->a7, or_true->a8
open Int renaming toNat_natCast->aB
open List renaming nil_append->aC, cons_append->aD, mem_of_getElem?->aG, take_length->aH, length_singleton->aM, length_append->aO, length_take->aQ, length_drop->aR, mem_of_mem_eraseIdx->aS, length_eraseIdx_le->aT, mem_append->aU, set_append_right->aV, length_filter_le->aW, mem_map->aX, mem_singleton->aY, append_assoc->a6
open Nat renaming reduceBEq->aA, min_eq_left->aJ, reduceEqDiff->bA, reduceAdd->bB, reduceSub->bC, reduceLT->bD
open Option renaming map_some->aF, getD_some->aL, bind_some->aN, filter->aP, isSome_some->aZ
namespace Go.Pe.Tryz
open Go.Proofs.Tryz
def jD (k id a v:Int):D:=.st (.cons (.int .i64 k) (.cons (.int .i64 id) (.cons (.int .i64 a) (.cons (.int .i64 v) .nil))))
def aNt (r:Option Off) (x':D) (rs:List D):Prop:=rs=[.bool r.isSome]/\∀ o',r=some o'->x'=o'.o
theorem k0 {r:Option Off} {x':D} (h:r=none):aNt r x' [.bool false]:=⟨by rw [h]; rfl,fun o' e=>by rw [h] at e; cases e⟩
theorem oY {r:Option Off} {x':D} {o':Off} (h:r=some o') (hx:x'=o'.o):aNt r x' [.bool true]:=⟨by rw [h]; rfl,fun o'' e=>by rw [h] at e; injection e with e; rw [<- e,hx]⟩
def yK (o:Off) (i:Nat) (x:Cs) (k v:Int):Option Off :=
 if k=3 then (if x.h.contains v=true then none else some { o with cs:=o.cs.set i { x with h:=j6 v x.h } })
 else if k=5 then (if 1<=v then some { o with cs:=o.cs.set i { x with d:=x.d + v } } else none)
 else if k=6 then (if v=0/\eA o x=true then some (kM o i x) else none)
 else none
theorem aGf (o:Off) (i:Nat) (x:Cs) (k id a v:Int) (ho:dN o=true) (hr:o.cs[i]?=some x) (hv0:0<=v) (hv1:v<=20000):FnM prog 148 true o.o [.int .i64 i,jD k id a v] (aNt (yK o i x k v)):=by
 have hp:=eF ho
 have hx:=e8 (hp.2.2.2.2.2.2.2.2.2 x (aG hr))
 have hil:=cQ hr
 have hi0:(0:Int)<=(i:Int):=by omega
 have hgn:(dl Cs.o o.cs).nth i=some (x.p (.sl true 1 (dl iD x.h))):=by rw [dC,hr]; rfl
 have hgs:∀ (y:D),((dl Cs.o o.cs).setN i y).nth i=some y:=fun y=>by rw [oZ,if_pos rfl,hgn]; rfl
 have hxo:x.h.length<=1048576:=by omega
 have hdl:(1:Int)<=o.cs.length:=by omega
 cases h3:decide (k=3) with
 | true =>
  have h3':=of_decide_eq_true h3
  have hC:=xJ x.h v hxo
  have hC':Fn prog 151 [.sl false 1 (dl iD x.h).unown,.int .i64 v] (fun rs=>rs=[.bool (x.h.contains v)]):=by rw [dS]; exact hC
  have hO:yK o i x k v=if x.h.contains v=true then none else some { o with cs:=o.cs.set i { x with h:=j6 v x.h } }:=if_pos h3'
  refine lH aAC [[1,1,0,1,0,1,0,1,1,1,0],[1,1,0,1,0,1,0,1,1,1,0],[1,1,0,1,0,1,0,1,1,0],[1,1,0,1,0,1,0,0,0],[1,0]] ?_
  dsimp only [aAC,aMh,rF,cS,cE,cR,c8]
  try simp only [wQ]
  simp only [Off.o,dQ,jD]
  repeat' (first|(simp only [cK,↓wA,↓wC,wB,bA,bB,reduceIte,reduceCtorEq])|((first|apply cH|apply cI|apply cG)<;>intro h<;>try simp only [h]))
  refine eY _ (fL 0 none [1] (es:=4) (xs:=dl Cs.o o.cs) rfl rfl) fun v1=>?_
  simp only [eD,↓wA,↓wC,wB,bA,bB,reduceIte,reduceCtorEq]
  repeat' (first|(simp only [hi0,aB,hgn,h3,cK,↓wA,↓wC,wB,bA,reduceIte])|((first|apply cH|apply cI|apply cG)<;>intro h<;>try simp only [h]))
  refine eY _ (fL 2 (some i) [3] (es:=1) (xs:=dl iD x.h) rfl (by simp only [kP,hgn,aN,fY])) fun v2=>?_
  simp only [eD,hgn,aL,iB,↓wA,↓wC,wB,bA,bB,reduceIte,reduceCtorEq]
  cases hc:x.h.contains v with
  | true =>
   rw [hc] at hC' hO
   repeat' (first|(simp only [hgs,cK,jL,fY,↓wA,↓wC,wB,bA,reduceIte,reduceCtorEq])|(refine cJ (hC') rfl rfl ?_)|(refine cL (hC') rfl rfl ?_)|((first|apply cH|apply cI|apply cG)<;>intro h<;>try simp only [h]))
   all_goals exact k0 (by rw [hO]; rfl)
  | false =>
   rw [hc] at hC' hO
   have hnv:v ∉ x.h:=fun h=>by rw [List.contains_iff_mem.2 h] at hc; cases hc
   have hS:=aQl v x.h (aJp hx.2.2.2.2.2.2.2.2) hnv (by omega)
   repeat' (first|(simp only [hgs,cK,kK,jL,fY,iB,jR,cP,↓wA,↓wC,wB,bA,bB,reduceIte,reduceCtorEq,aA,bD])|(refine cJ (hC') rfl rfl ?_)|(refine cL (hC') rfl rfl ?_)|(refine dJ ?_)|(with_reducible refine cO ?_ ?_; focus (simp; done))|(with_reducible refine cO ?_ ?_; focus omega)|((first|apply cH|apply cI|apply cG)<;>intro h<;>try simp only [h]))
   refine eY _ (fL 2 (some i) [3] (es:=1) (xs:=dl iD (x.h ++ [v])) rfl (by simp only [kP,hgs,aN,fY])) fun v3=>?_
   simp only [eD,hgs,aL,iB,kK,↓wA,↓wC,wB,bA,bB,reduceIte,reduceCtorEq]
   repeat' (first|(simp only [cK,jL,fY,↓wA,wB])|((first|apply cH|apply cI|apply cG)<;>intro h<;>try simp only [h]))
   refine uO (bx:=false) (r:=7) hS rfl rfl rfl ?_
   repeat' (first|(simp only [↓wC,wB,reduceIte,reduceCtorEq])|((first|apply cH|apply cI|apply cG)<;>intro h<;>try simp only [h]))
   refine dB (iU 2 8 7 (some i) [3] rfl (by simp only [kP,hgs,aN,fY]) rfl rfl (by decide) rfl) ?_
   simp only [eD,hgs,aL,iB,kK,wB,reduceIte]
   refine dB (iU 0 3 2 none [1] rfl rfl rfl rfl (by decide) rfl) ?_
   simp only [eD,↓wA,↓wC,wB,reduceIte,reduceCtorEq]
   repeat' (first|(simp only [hi0,aB,hgn,hgs,h3,cK,kK,jL,fY,iB,aBe,aAY,aBc,jR,cP,↓wA,↓wC,wB,cU,cT,bA,bB,bC,reduceIte,reduceCtorEq,aA,bD])|((first|apply cH|apply cI|apply cG)<;>intro h<;>try simp only [h]))
   have e:x.p (.sl true 1 (dl iD (j6 v x.h)))=Cs.o { x with h:=j6 v x.h }:=rfl
   all_goals refine oY (o':={ o with cs:=o.cs.set i { x with h:=j6 v x.h } }) (by rw [hO]; rfl) ?_
   rw [e,kH]; rfl
 | false =>
  have h3':=of_decide_eq_false h3
  cases h5:decide (k=5) with
  | true =>
   have h5':=of_decide_eq_true h5
   have hO:yK o i x k v=if 1<=v then some { o with cs:=o.cs.set i { x with d:=x.d + v } } else none:=by unfold yK; rw [if_neg h3',if_pos h5']
   refine lH aAC [[1,1,0,1,0,1,1,1,0,1,1],[1,0]] ?_
   dsimp only [aAC,aMh,rF,cS,cE,cR,c8]
   try simp only [wQ]
   simp only [Off.o,dQ,jD]
   repeat' (first|(simp only [cK,↓wA,↓wC,wB,bA,bB,reduceIte,reduceCtorEq])|((first|apply cH|apply cI|apply cG)<;>intro h<;>try simp only [h]))
   refine eY _ (fL 0 none [1] (es:=4) (xs:=dl Cs.o o.cs) rfl rfl) fun v1=>?_
   simp only [eD,↓wA,↓wC,wB,bA,bB,reduceIte,reduceCtorEq]
   repeat' (first|(simp only [hi0,aB,hgn,h3,cK,aBe,aAY,aBc,h5,↓wA,↓wC,wB,bA,bB,reduceIte,reduceCtorEq,aA])|(refine dJ ?_)|(with_reducible refine cM ?_ ?_; focus (simp only [dX]; omega))|((first|apply cH|apply cI|apply cG)<;>intro h<;>try simp only [h]))
   refine dB (iU 0 3 2 none [1] rfl rfl rfl rfl (by decide) rfl) ?_
   simp only [eD,↓wA,↓wC,wB,reduceIte,reduceCtorEq]
   repeat' (first|(simp only [hi0,aB,hgn,hgs,h3,cK,kK,jL,fY,iB,aBe,aAY,aBc,jR,cP,↓wA,↓wC,wB,cU,cT,bA,bB,bC,reduceIte,reduceCtorEq,aA,bD])|((first|apply cH|apply cI|apply cG)<;>intro h<;>try simp only [h]))
   have e:Cs.p { i:=x.i,a:=x.a,d:=x.d + v,h:=x.h } (.sl true 1 (dl iD x.h))=Cs.o { x with d:=x.d + v }:=rfl
   by_cases hv:1<=v
   ·rw [decide_eq_true hv]
    all_goals refine oY (o':={ o with cs:=o.cs.set i { x with d:=x.d + v } }) (by rw [hO,if_pos hv]) ?_
    rw [e,kH]; rfl
   ·rw [decide_eq_false hv]
    exact k0 (by rw [hO,if_neg hv])
  | false =>
   have h5':=of_decide_eq_false h5
   cases h6:decide (k=6) with
   | true =>
    have h6':=of_decide_eq_true h6
    have hO:yK o i x k v=if v=0/\eA o x=true then some (kM o i x) else none:=by unfold yK; rw [if_neg h3',if_neg h5',if_pos h6']
    refine lH aAC [[1,1,0,1,0,1,1,1,1,1,0,0],[1,0]] ?_
    dsimp only [aAC,aMh,rF,cS,cE,cR,c8]
    try simp only [wQ]
    simp only [Off.o,dQ,jD]
    repeat' (first|(simp only [cK,↓wA,↓wC,wB,bA,bB,reduceIte,reduceCtorEq])|((first|apply cH|apply cI|apply cG)<;>intro h<;>try simp only [h]))
    refine eY _ (fL 0 none [1] (es:=4) (xs:=dl Cs.o o.cs) rfl rfl) fun v1=>?_
    simp only [eD,↓wA,↓wC,wB,bA,bB,reduceIte,reduceCtorEq]
    repeat' (first|(simp only [hi0,aB,hgn,h3,cK,h5,h6,↓wA,↓wC,wB,bA,reduceIte,reduceCtorEq])|(with_reducible refine cM ?_ ?_; focus (simp only [dX]; omega))|((first|apply cH|apply cI|apply cG)<;>intro h<;>try simp only [h]))
    refine dB (iU 0 3 2 none [1] rfl rfl rfl rfl (by decide) rfl) ?_
    simp only [eD,↓wA,↓wC,wB,bA,bB,reduceIte,reduceCtorEq]
    by_cases hv:v=0
    ·have hvd:decide (v=0)=true:=decide_eq_true hv
     repeat' (first|(simp only [hvd,↓wA,↓wC,wB,bA,reduceIte,reduceCtorEq])|((first|apply cH|apply cI|apply cG)<;>intro h<;>try simp only [h]))
     refine kG (bx:=true) (r:=0) (aQg o i x ho hr) rfl rfl rfl ?_
     rintro x' _ ⟨rfl,hy⟩
     repeat' (first|(simp only [cK,↓wA,↓wC,wB,bA,bB,reduceIte,reduceCtorEq])|((first|apply cH|apply cI|apply cG)<;>intro h<;>try simp only [h]))
     cases hB:eA o x with
     | true=>exact oY (by rw [hO,if_pos ⟨hv,hB⟩]) (hy hB)
     | false=>exact k0 (by rw [hO,if_neg (fun h=>by rw [hB] at h; cases h.2)])
    ·have hvd:decide (v=0)=false:=decide_eq_false hv
     repeat' (first|(simp only [cK,hvd,↓wA,↓wC,wB,bA,reduceIte,reduceCtorEq])|((first|apply cH|apply cI|apply cG)<;>intro h<;>try simp only [h]))
     all_goals exact k0 (by rw [hO,if_neg (fun h=>hv h.1)])
   | false =>
    have h6':=of_decide_eq_false h6
    have hO:yK o i x k v=none:=by unfold yK; rw [if_neg h3',if_neg h5',if_neg h6']
    refine lH aAC [[1,0]] ?_
    dsimp only [aAC,aMh,rF,cS,cE,cR,c8]
    try simp only [wQ]
    simp only [Off.o,dQ,jD]
    repeat' (first|(simp only [cK,↓wA,↓wC,wB,bA,bB,reduceIte,reduceCtorEq])|((first|apply cH|apply cI|apply cG)<;>intro h<;>try simp only [h]))
    refine eY _ (fL 0 none [1] (es:=4) (xs:=dl Cs.o o.cs) rfl rfl) fun v1=>?_
    simp only [eD,↓wA,↓wC,wB,bA,bB,reduceIte,reduceCtorEq]
    repeat' (first|(simp only [hi0,aB,hgn,h3,cK,h5,h6,↓wA,↓wC,wB,bA,reduceIte,reduceCtorEq])|(with_reducible refine cM ?_ ?_; focus (simp only [dX]; omega))|((first|apply cH|apply cI|apply cG)<;>intro h<;>try simp only [h]))
    all_goals exact k0 hO
theorem aBv:∀ (xs:List D) (i:Nat) (y:D),(i6 xs).setN i y=i6 (xs.set i y)
 | [],i,y=>by cases i<;>rfl
 | x :: xs,0,y=>rfl
 | x :: xs,i + 1,y=>by
  have:=aBv xs i y
  simp only [i6,D.setN,List.set_cons_succ,this]
theorem dP {xs:D}:(D.st xs).isStB=true:=rfl
theorem aNj (o:Off) (id a v:Int) (ho:dN o=true) (hv0:0<=v) (hv1:v<=20000):FnM prog 107 true o.o [jD 2 id a v] (aNt (mkO o 2 id a v)):=by
 have hp:=eF ho
 have ho0:=eU ho
 have hA:=zT o id ho0
 have hM:mkO o 2 id a v=if 0<=fN o.cs id then none else some { o with cs:=iE ⟨id,a,o.day + v,[]⟩ o.cs }:=if_pos rfl
 have h2:decide ((2:Int)=2)=true:=rfl
 cases hf:decide (0<=fN o.cs id) with
 | true =>
  have hf':=of_decide_eq_true hf
  rw [if_pos hf'] at hM
  refine lH sY [] ?_
  dsimp only [sY,aIo,rF,cS,cE,cR,c8]
  try simp only [wQ]
  simp only [Off.o,dQ,jD]
  repeat' (first|(simp only [cK,dP,hf,↓wA,↓wC,wB,bA,bB,reduceIte,reduceCtorEq])|(refine cL hA (congrArg (fun d:D=>some [d,.int .i64 id]) (aX5 o)) rfl ?_)|((first|apply cH|apply cI|apply cG)<;>intro h<;>try simp only [h]))
  all_goals exact k0 hM
 | false =>
  have hf':=of_decide_eq_false hf
  rw [if_neg hf'] at hM
  refine lH sY [[1,1,0,0,1,0,1,1,1,1,0],[1,1,0,0,1,0,1,1,1,1,0],[1,1,0,0,1,0,1,1,1,1,0],[1,1,0,0,1,0,1,0]] ?_
  dsimp only [sY,aIo,rF,cS,cE,cR,c8]
  try simp only [wQ]
  simp only [Off.o,dQ,jD]
  repeat' (first|(simp only [cK,dP,hf,↓wA,↓wC,wB,bA,bB,reduceIte,reduceCtorEq])|(refine cL hA (congrArg (fun d:D=>some [d,.int .i64 id]) (aX5 o)) rfl ?_)|((first|apply cH|apply cI|apply cG)<;>intro h<;>try simp only [h]))
  refine eY _ (fL 0 none [1] (es:=4) (xs:=dl Cs.o o.cs) rfl rfl) fun v1=>?_
  simp only [eD,↓wA,↓wC,wB,bA,bB,reduceIte,reduceCtorEq]
  repeat' (first|(simp only [cK,↓wA,↓wC,wB,cU,cT,bA,bB,bC,reduceIte,reduceCtorEq,aA,bD])|((first|apply cH|apply cI|apply cG)<;>intro h<;>try simp only [h]))
  refine eK (fun j:Nat=>⟨[(0,.ptr 0 0 []),(3,.ptr 1 0 []),(6,.d (.int .i64 j))],[.box (dQ o (.lnk 3 v1) (.sl true 1 (dl D.str o.led))),.box (jD 2 id a v),.val (.sl true 4 (dl Cs.o o.cs)),.tag 2 v1]⟩) (fun j=>j<=o.cs.length/\∀ m x,m < j->o.cs[m]?=some x->x.i < id) (fun j=>o.cs.length - j) 0 (cV _ rfl ⟨⟨rfl,rfl⟩,⟨rfl,rfl⟩,⟨rfl,rfl⟩,trivial⟩) ⟨by omega,fun m x hm=>by omega⟩ ?_
  rintro j ⟨hj1,hj2⟩
  simp only [dQ,jD]
  have hcm:∀ x:Cs,Cs.o x=x.p (.sl true 1 (dl iD x.h)):=fun _=>rfl
  have hj0:(0:Int)<=(j:Int):=by omega
  by_cases hlt:j < o.cs.length
  ·obtain ⟨x,hr⟩:=dW hlt
   have hd:decide ((j:Int) < (o.cs.length:Int))=true:=decide_eq_true (by omega)
   cases hx:decide (x.i < id) with
   | true =>
    repeat' (first|(simp only [cK,cP,dC,hd,hx,hr,hj0,hcm,aB,aF,xH,xF,↓wA,↓wC,wB,bA,reduceIte,reduceCtorEq])|(with_reducible refine cM ?_ ?_; focus (simp only [dX]; omega))|((first|apply cH|apply cI|apply cG)<;>intro h<;>try simp only [h]))
    refine ⟨j + 1,(cV _ rfl ⟨⟨rfl,rfl⟩,⟨rfl,rfl⟩,⟨rfl,rfl⟩,trivial⟩),⟨by omega,fun m y hm hy=>?_⟩,by omega⟩
    by_cases e:m=j
    ·subst e
     rw [hr] at hy
     injection hy with hy
     rw [<- hy]; exact of_decide_eq_true hx
    ·exact hj2 m y (by omega) hy
   | false =>
    have hpl:pW id o.cs=j:=qG o.cs j hj1 hj2 (fun y hy=>by rw [hr] at hy; injection hy with hy; rw [<- hy]; exact of_decide_eq_false hx)
    repeat' (first|(simp only [cK,cP,dC,hd,hx,hr,hj0,hcm,aB,aF,xH,xF,↓wA,↓wC,wB,bA,bB,reduceIte,reduceCtorEq,aA,bD])|(refine dJ ?_)|(with_reducible refine cM ?_ ?_; focus (simp only [dX]; omega))|((first|apply cH|apply cI|apply cG)<;>intro h<;>try simp only [h]))
    have hpe:iE ⟨id,a,o.day + v,[]⟩ o.cs=o.cs.take j ++ ⟨id,a,o.day + v,[]⟩ :: o.cs.drop j:=by unfold iE; rw [hpl]
    refine aI0 _ (fL 5 (some 0) [3] (es:=1) (xs:=.nil) rfl rfl) fun v2=>?_
    simp only [eD,D.nth,aL,j7,D.setN,↓wC,wB,bA,bB,reduceIte,reduceCtorEq]
    refine aFy 5 ?_
    simp only [aFV,v6,tC,D.unown,↓wC,wB,bA,reduceIte,reduceCtorEq]
    have hI:=aBD (o.cs.map Cs.o) (Cs.p ⟨id,a,o.day + v,[]⟩ (.lnk 7 v2)) (fun d hd=>by obtain ⟨y,_,rfl⟩:=aX.1 hd; rfl) rfl j (by simpa using hj1) (by simp; omega)
    refine kG (bx:=false) (r:=2) hI rfl rfl rfl ?_
    rintro _ _ ⟨⟨u,rfl⟩,rfl⟩
    have hnth:(i6 ((o.cs.map Cs.o).take j ++ Cs.p ⟨id,a,o.day + v,[]⟩ (.lnk 7 v2) :: (o.cs.map Cs.o).drop j)).nth j=some (Cs.p ⟨id,a,o.day + v,[]⟩ (.lnk 7 v2)):=by
     rw [pB,List.getElem?_append_right (by simp; omega)]
     simp [aJ hj1]
    have hset:(i6 ((o.cs.map Cs.o).take j ++ Cs.p ⟨id,a,o.day + v,[]⟩ (.lnk 7 v2) :: (o.cs.map Cs.o).drop j)).setN j (Cs.p ⟨id,a,o.day + v,[]⟩ (.sl true 1 .nil))=dl Cs.o (iE ⟨id,a,o.day + v,[]⟩ o.cs):=by
     rw [aBv,aV _ _ (by simp; omega),hpe]
     simp [aJ hj1,dl]
     rfl
    generalize i6 ((o.cs.map Cs.o).take j ++ Cs.p ⟨id,a,o.day + v,[]⟩ (.lnk 7 v2) :: (o.cs.map Cs.o).drop j)=NL at hnth hset
    repeat' (first|(simp only [cK,↓wA,↓wC,wB,bB,reduceIte,reduceCtorEq,aA])|((first|apply cH|apply cI|apply cG)<;>intro h<;>try simp only [h]))
    refine eY _ (fL 0 none [1] (es:=4) (xs:=NL) rfl rfl) fun v3=>?_
    simp only [eD,wB,bB,reduceIte]
    refine dB (iU 9 7 6 (some j) [3] rfl (by simp only [kP,hnth,aN,fY]) rfl rfl (by decide) rfl) ?_
    simp only [eD,hnth,aL,iB,hset,wB,reduceIte]
    refine dB (iU 0 10 9 none [1] rfl rfl rfl rfl (by decide) rfl) ?_
    simp only [eD,↓wA,↓wC,wB,reduceIte,reduceCtorEq]
    repeat' (first|(simp only [cK,↓wA,↓wC,wB,cU,cT,bA,bB,bC,reduceIte,reduceCtorEq,aA,bD])|((first|apply cH|apply cI|apply cG)<;>intro h<;>try simp only [h]))
    all_goals exact oY hM rfl
  ·have e:j=o.cs.length:=by omega
   have hd:decide ((j:Int) < (o.cs.length:Int))=false:=decide_eq_false (by omega)
   have hpl:pW id o.cs=j:=qG o.cs j hj1 hj2 (fun y hy=>by have:=cQ hy; omega)
   repeat' (first|(simp only [cK,cP,hd,↓wA,↓wC,wB,bA,bB,reduceIte,reduceCtorEq,aA,bD])|(refine dJ ?_)|(with_reducible refine cM ?_ ?_; focus (simp only [dX]; omega))|((first|apply cH|apply cI|apply cG)<;>intro h<;>try simp only [h]))
   have hpe:iE ⟨id,a,o.day + v,[]⟩ o.cs=o.cs.take j ++ ⟨id,a,o.day + v,[]⟩ :: o.cs.drop j:=by unfold iE; rw [hpl]
   refine aI0 _ (fL 5 (some 0) [3] (es:=1) (xs:=.nil) rfl rfl) fun v2=>?_
   simp only [eD,D.nth,aL,j7,D.setN,↓wC,wB,bA,bB,reduceIte,reduceCtorEq]
   refine aFy 5 ?_
   simp only [aFV,v6,tC,D.unown,↓wC,wB,bA,reduceIte,reduceCtorEq]
   have hI:=aBD (o.cs.map Cs.o) (Cs.p ⟨id,a,o.day + v,[]⟩ (.lnk 7 v2)) (fun d hd=>by obtain ⟨y,_,rfl⟩:=aX.1 hd; rfl) rfl j (by simpa using hj1) (by simp; omega)
   refine kG (bx:=false) (r:=2) hI rfl rfl rfl ?_
   rintro _ _ ⟨⟨u,rfl⟩,rfl⟩
   have hnth:(i6 ((o.cs.map Cs.o).take j ++ Cs.p ⟨id,a,o.day + v,[]⟩ (.lnk 7 v2) :: (o.cs.map Cs.o).drop j)).nth j=some (Cs.p ⟨id,a,o.day + v,[]⟩ (.lnk 7 v2)):=by
    rw [pB,List.getElem?_append_right (by simp; omega)]
    simp [aJ hj1]
   have hset:(i6 ((o.cs.map Cs.o).take j ++ Cs.p ⟨id,a,o.day + v,[]⟩ (.lnk 7 v2) :: (o.cs.map Cs.o).drop j)).setN j (Cs.p ⟨id,a,o.day + v,[]⟩ (.sl true 1 .nil))=dl Cs.o (iE ⟨id,a,o.day + v,[]⟩ o.cs):=by
    rw [aBv,aV _ _ (by simp; omega),hpe]
    simp [aJ hj1,dl]
    rfl
   generalize i6 ((o.cs.map Cs.o).take j ++ Cs.p ⟨id,a,o.day + v,[]⟩ (.lnk 7 v2) :: (o.cs.map Cs.o).drop j)=NL at hnth hset
   repeat' (first|(simp only [cK,↓wA,↓wC,wB,bB,reduceIte,reduceCtorEq,aA])|((first|apply cH|apply cI|apply cG)<;>intro h<;>try simp only [h]))
   refine eY _ (fL 0 none [1] (es:=4) (xs:=NL) rfl rfl) fun v3=>?_
   simp only [eD,wB,bB,reduceIte]
   refine dB (iU 9 7 6 (some j) [3] rfl (by simp only [kP,hnth,aN,fY]) rfl rfl (by decide) rfl) ?_
   simp only [eD,hnth,aL,iB,hset,wB,reduceIte]
   refine dB (iU 0 10 9 none [1] rfl rfl rfl rfl (by decide) rfl) ?_
   simp only [eD,↓wA,↓wC,wB,reduceIte,reduceCtorEq]
   repeat' (first|(simp only [cK,↓wA,↓wC,wB,cU,cT,bA,bB,bC,reduceIte,reduceCtorEq,aA,bD])|((first|apply cH|apply cI|apply cG)<;>intro h<;>try simp only [h]))
   all_goals exact oY hM rfl
theorem aCZ (o:Off) (k id a v:Int) (ho:dN o=true) (hv0:0<=v) (hv1:v<=20000):FnM prog 107 true o.o [jD k id a v] (aNt (mkO o k id a v)):=by
 have hp:=eF ho
 have ho0:=eU ho
 have hA:=zT o id ho0
 cases k2:decide (k=2) with
 | true =>
  have:=of_decide_eq_true k2
  subst this
  exact aNj o id a v ho hv0 hv1
 | false =>
  have k2':=of_decide_eq_false k2
  cases ha:decide (a=0) with
  | false =>
   have ha':=of_decide_eq_false ha
   have hM:mkO o k id a v=none:=by unfold mkO; rw [if_neg k2',if_pos ha']
   refine lH sY [] ?_
   dsimp only [sY,aIo,rF,cS,cE,cR,c8]
   try simp only [wQ]
   simp only [Off.o,dQ,jD]
   repeat' (first|(simp only [cK,dP,k2,ha,↓wA,↓wC,wB,bA,bB,reduceIte,reduceCtorEq])|(refine cL hA (congrArg (fun d:D=>some [d,.int .i64 id]) (aX5 o)) rfl ?_)|((first|apply cH|apply cI|apply cG)<;>intro h<;>try simp only [h]))
   all_goals exact k0 hM
  | true =>
   have ha':=of_decide_eq_true ha
   have hM0:mkO o k id a v=mkO o k id a v:=rfl
   conv at hM0=>rhs; unfold mkO
   rw [if_neg k2',if_neg (show ¬ a≠0 from fun h=>h ha')] at hM0
   cases k1:decide (k=1) with
   | true =>
    have k1':=of_decide_eq_true k1
    rw [if_pos k1'] at hM0
    refine lH sY [] ?_
    dsimp only [sY,aIo,rF,cS,cE,cR,c8]
    try simp only [wQ]
    simp only [Off.o,dQ,jD]
    cases hi:decide (id=0) with
    | true =>
     have hi':=of_decide_eq_true hi
     repeat' (first|(simp only [cK,dP,k2,ha,k1,hi,↓wA,↓wC,wB,bA,bB,reduceIte,reduceCtorEq,aA])|(refine dJ ?_)|(refine cL hA (congrArg (fun d:D=>some [d,.int .i64 id]) (aX5 o)) rfl ?_)|(with_reducible refine cM ?_ ?_; focus (simp only [dX]; omega))|((first|apply cH|apply cI|apply cG)<;>intro h<;>try simp only [h]))
     by_cases hv:1<=v
     ·rw [decide_eq_true hv]
      exact oY (o':={ o with day:=o.day + v }) (by rw [hM0,if_pos ⟨hi',hv⟩]) rfl
     ·rw [decide_eq_false hv]
      exact k0 (by rw [hM0,if_neg (fun h=>hv h.2)])
    | false =>
     have hi':=of_decide_eq_false hi
     repeat' (first|(simp only [cK,dP,k2,ha,k1,hi,↓wA,↓wC,wB,bA,bB,reduceIte,reduceCtorEq,aA])|(refine dJ ?_)|(refine cL hA (congrArg (fun d:D=>some [d,.int .i64 id]) (aX5 o)) rfl ?_)|(with_reducible refine cM ?_ ?_; focus (simp only [dX]; omega))|((first|apply cH|apply cI|apply cG)<;>intro h<;>try simp only [h]))
     all_goals exact k0 (by rw [hM0,if_neg (fun h=>hi' h.1)])
   | false =>
    have k1':=of_decide_eq_false k1
    rw [if_neg k1'] at hM0
    cases k4:decide (k=4) with
    | true =>
     have k4':=of_decide_eq_true k4
     rw [if_pos k4'] at hM0
     have hnd:∀ x∈o.cs,x.h.Nodup:=fun x hx=>aFR (aJp (e8 (hp.2.2.2.2.2.2.2.2.2 x hx)).2.2.2.2.2.2.2.2)
     refine lH sY [] ?_
     dsimp only [sY,aIo,rF,cS,cE,cR,c8]
     try simp only [wQ]
     simp only [Off.o,dQ,jD]
     cases hi:decide (id=0) with
     | true =>
      have hi':=of_decide_eq_true hi
      repeat' (first|(simp only [cK,dP,k2,ha,k1,k4,hi,↓wA,↓wC,wB,bA,bB,reduceIte,reduceCtorEq])|(refine cL hA (congrArg (fun d:D=>some [d,.int .i64 id]) (aX5 o)) rfl ?_)|((first|apply cH|apply cI|apply cG)<;>intro h<;>try simp only [h]))
      refine uO (bx:=true) (r:=0) (aHu o v ho0 hnd) rfl rfl rfl ?_
      repeat' (first|(simp only [cK,↓wA,↓wC,wB,bA,bB,reduceIte,reduceCtorEq])|((first|apply cH|apply cI|apply cG)<;>intro h<;>try simp only [h]))
      cases hh:vC v o.cs with
      | true=>exact oY (o':={ o with cs:=o.cs.map (s8 v) }) (by rw [hM0,if_pos ⟨hi',hh⟩]) rfl
      | false=>exact k0 (by rw [hM0,if_neg (fun h=>by rw [hh] at h; cases h.2)])
     | false =>
      have hi':=of_decide_eq_false hi
      repeat' (first|(simp only [cK,dP,k2,ha,k1,k4,hi,↓wA,↓wC,wB,bA,bB,reduceIte,reduceCtorEq])|(refine cL hA (congrArg (fun d:D=>some [d,.int .i64 id]) (aX5 o)) rfl ?_)|((first|apply cH|apply cI|apply cG)<;>intro h<;>try simp only [h]))
      all_goals exact k0 (by rw [hM0,if_neg (fun h=>hi' h.1)])
    | false =>
     have k4':=of_decide_eq_false k4
     rw [if_neg k4'] at hM0
     refine lH sY [] ?_
     dsimp only [sY,aIo,rF,cS,cE,cR,c8]
     try simp only [wQ]
     simp only [Off.o,dQ,jD]
     cases hf:decide (0<=fN o.cs id) with
     | false =>
      have hf':=of_decide_eq_false hf
      rw [if_neg hf'] at hM0
      repeat' (first|(simp only [cK,dP,k2,ha,k1,k4,hf,↓wA,↓wC,wB,bA,bB,reduceIte,reduceCtorEq])|(refine cL hA (congrArg (fun d:D=>some [d,.int .i64 id]) (aX5 o)) rfl ?_)|((first|apply cH|apply cI|apply cG)<;>intro h<;>try simp only [h]))
      all_goals exact k0 hM0
     | true =>
      have hf':=of_decide_eq_true hf
      rw [if_pos hf'] at hM0
      rcases lM o.cs id with ⟨_,hn⟩|⟨i,x,hi,hr,_⟩
      ·exact absurd hf' (of_decide_eq_false hn)
      ·rw [hi,aB,hr] at hM0
       rw [hi] at hA hf
       have hS:=aGf o i x k id a v ho hr hv0 hv1
       repeat' (first|(simp only [cK,dP,k2,ha,k1,k4,hf,↓wA,↓wC,wB,bA,bB,reduceIte,reduceCtorEq])|(refine cL hA (congrArg (fun d:D=>some [d,.int .i64 id]) (aX5 o)) rfl ?_)|((first|apply cH|apply cI|apply cG)<;>intro h<;>try simp only [h]))
       refine kG (bx:=true) (r:=0) hS rfl rfl rfl ?_
       rintro x' _ ⟨rfl,hx'⟩
       repeat' (first|(simp only [cK,↓wA,↓wC,wB,bA,bB,reduceIte,reduceCtorEq])|((first|apply cH|apply cI|apply cG)<;>intro h<;>try simp only [h]))
       have hM1:mkO o k id a v=yK o i x k v:=hM0
       all_goals exact ⟨by rw [hM1],fun o' h=>hx' o' (by rw [<- hM1]; exact h)⟩
def aC6:Off:=⟨0,[],0,0,[]⟩
theorem aF2 (v:Int) (h:List Int):(j6 v h).length=h.length + 1:=by simp [j6]; omega
theorem aA4 {xs:List Cs} {i:Nat} {y:Cs} (h:uZ xs) (hy:y.ok0):uZ (xs.set i y):=⟨by simpa using h.1,fun z hz=>by
 rcases List.mem_or_eq_of_mem_set hz with hz|hz
 ·exact h.2 z hz
 ·rw [hz]; exact hy⟩
theorem aOE {o o':Off} {k id a v:Int} (ho:dN o=true) (hx:∀ (i:Nat) (x:Cs),o.cs[i]?=some x->gB x=true) (h:mkO o k id a v=some o'):o'.ok0:=by
 have hp:=eF ho
 have h0:=eU ho
 unfold mkO at h
 by_cases k2:k=2
 ·rw [if_pos k2] at h
  split at h
  ·cases h
  ·injection h with h
   subst h
   refine ⟨⟨?_,fun x hx=>?_⟩,h0.2⟩
   ·simp [iE]; omega
   ·rcases aU.1 hx with hx|hx
    ·exact h0.1.2 x (List.mem_of_mem_take hx)
    ·rcases List.mem_cons.1 hx with rfl|hx
     ·simp [Cs.ok0]
     ·exact h0.1.2 x (List.mem_of_mem_drop hx)
 ·rw [if_neg k2] at h
  split at h
  ·cases h
  split at h
  ·split at h
   ·injection h with h; subst h; exact h0
   ·cases h
  split at h
  ·split at h
   ·injection h with h
    subst h
    refine ⟨⟨by simpa using h0.1.1,fun x hx=>?_⟩,h0.2⟩
    obtain ⟨y,hy,rfl⟩:=aX.1 hx
    have h1:=h0.1.2 y hy
    have h2:=aW (fun n=>!decide (n=v)) y.h
    exact Nat.le_trans h2 h1
   ·cases h
  split at h
  ·split at h
   ·rename_i x hr
    have hxc:=e8 (hx _ x hr)
    split at h
    ·split at h
     ·cases h
     ·injection h with h
      subst h
      refine ⟨aA4 h0.1 ?_,h0.2⟩
      show (j6 v x.h).length<=1048576
      rw [aF2]; omega
    ·split at h
     ·split at h
      ·injection h with h
       subst h
       refine ⟨aA4 h0.1 ?_,h0.2⟩
       show x.h.length<=1048576
       omega
      ·cases h
     ·split at h
      ·split at h
       ·injection h with h
        subst h
        have he:∀ i,uZ (o.cs.eraseIdx i):=fun i=>⟨by have:=aT o.cs i; omega,fun y hy=>h0.1.2 y (aS hy)⟩
        unfold kM
        split
        ·exact ⟨he _,h0.2⟩
        ·split
         ·exact ⟨he _,h0.2⟩
         ·refine ⟨he _,by simp; omega,fun s hs=>?_⟩
          rcases aU.1 hs with hs|hs
          ·exact h0.2.2 s hs
          ·rw [aY.1 hs]
           have h1:=eL x.i (by simp only [dX]; omega)
           have h2:=eL o.day (by simp only [dX]; omega)
           simp [lK]; omega
       ·cases h
      ·cases h
   ·cases h
  ·cases h
def rV:Option Off->List D
 | some o'=>[o'.o,.bool true]
 | none=>[aC6.o,.bool false]
theorem aGc (o:Off) (k id a v:Int) (ho:o.ok0):Fn prog 72 [o.s,jD k id a v] (fun rs=>rs=rV (gO o k id a v)):=by
 have hV:=iZ o ho
 have hW:=eT v 0 20000
 cases hv:dN o with
 | false =>
  have hR:gO o k id a v=none:=by unfold gO; rw [hv]; rfl
  rw [hR]
  rw [hv] at hV
  refine cW aKC [] ?_
  dsimp only [aKC,m72,rF,cS,cE,cR,c8]
  try simp only [wQ]
  simp only [jD]
  repeat' (first|(simp only [aXW,aXX,↓dL,cK,↓wA,↓wC,wB,bA,bB,reduceIte,reduceCtorEq,aA,dF])|(refine cJ hV (by simp [dA,dK]) rfl ?_)|((first|apply cH|apply cI|apply cG)<;>intro h<;>try simp only [h]))
  all_goals rfl
 | true =>
  rw [hv] at hV
  cases hw:c6 v 0 20000 with
  | false =>
   have hR:gO o k id a v=none:=by unfold gO; rw [hv,hw]; rfl
   rw [hR]
   rw [hw] at hW
   refine cW aKC [] ?_
   dsimp only [aKC,m72,rF,cS,cE,cR,c8]
   try simp only [wQ]
   simp only [jD]
   repeat' (first|(simp only [aXW,aXX,↓dL,cK,↓wA,↓wC,wB,bA,bB,reduceIte,reduceCtorEq,aA,dF])|(refine cJ (hW) rfl rfl ?_)|(refine cL (hW) rfl rfl ?_)|(refine cJ hV (by simp [dA,dK]) rfl ?_)|((first|apply cH|apply cI|apply cG)<;>intro h<;>try simp only [h]))
   all_goals rfl
  | true =>
   have hwi:=jW.1 hw
   rw [hw] at hW
   have hR:gO o k id a v=(mkO o k id a v).filter dN:=by unfold gO; rw [hv,hw]; rfl
   have hC:=vP o ho
   have hS:=aCZ o k id a v hv hwi.1 hwi.2
   have hno:∀ q:Off,q.o.noOwn=false:=fun q=>by simp [Off.o,dQ,D.noOwn]
   have hst:∀ q:Off,q.o.isStB=true:=fun q=>rfl
   refine cW aKC [] ?_
   dsimp only [aKC,m72,rF,cS,cE,cR,c8]
   try simp only [wQ]
   simp only [jD]
   repeat' (first|(simp only [aXW,aXX,aYe,aYc,aX2,hno,↓dL,cK,↓wA,↓wC,wB,cU,cT,bA,bB,bC,reduceIte,reduceCtorEq,aA,bD,dF])|(refine cJ (hW) rfl rfl ?_)|(refine cL (hW) rfl rfl ?_)|(refine cJ hV (by simp [dA,dK]) rfl ?_)|(refine cJ hC (by simp [dA,dK]) rfl ?_)|((first|apply cH|apply cI|apply cG)<;>intro h<;>try simp only [h]))
   refine kG (bx:=true) (r:=4) hS rfl rfl rfl ?_
   rintro x' _ ⟨rfl,hx'⟩
   rw [hR]
   cases hM:mkO o k id a v with
   | none =>
    repeat' (first|(simp only [cK,Option.isSome_none,↓wA,↓wC,wB,bA,bB,reduceIte,aA,dF])|((first|apply cH|apply cI|apply cG)<;>intro h<;>try simp only [h]))
    all_goals rfl
   | some o' =>
    obtain rfl:=hx' o' hM
    have hV':=iZ o' (aOE hv (fun i x hr=>(eF hv).2.2.2.2.2.2.2.2.2 x (aG hr)) hM)
    cases hv':dN o' with
    | true =>
     rw [hv'] at hV'
     have hr:rV (aP dN (some o'))=[o'.o,.bool true]:=by simp [aP,hv',rV]
     rw [hr]
     repeat' (first|(simp only [hst,cK,aZ,aYc,hno,↓wA,↓wC,wB,bA,bB,reduceIte,aA,dF])|(refine cJ hV' (congrArg (fun d:D=>some [d]) (aX5 o')) rfl ?_)|((first|apply cH|apply cI|apply cG)<;>intro h<;>try simp only [h]))
     exact ⟨_,rfl,rfl,rfl,rfl,rfl⟩
    | false =>
     rw [hv'] at hV'
     have hr:rV (aP dN (some o'))=[aC6.o,.bool false]:=by simp [aP,hv',rV]
     rw [hr]
     repeat' (first|(simp only [hst,cK,aZ,aYc,hno,↓wA,↓wC,wB,bA,bB,reduceIte,aA,dF])|(refine cJ hV' (congrArg (fun d:D=>some [d]) (aX5 o')) rfl ?_)|((first|apply cH|apply cI|apply cG)<;>intro h<;>try simp only [h]))
     all_goals rfl
structure Stp where
 k:Int
 i:Int
 a:Int
 v:Int
def Stp.d (s:Stp):D:=jD s.k s.i s.a s.v
theorem xO {o q:Off} {k id a v:Int} (h:gO o k id a v=some q):dN q=true:=by
 unfold gO at h
 split at h
 ·cases hm:mkO o k id a v with
  | none=>rw [hm] at h; cases h
  | some o' =>
   rw [hm] at h
   simp only [aP] at h
   split at h
   ·rename_i hv; injection h with h; rw [<- h]; exact hv
   ·cases h
 ·cases h
def zO:D:=.st (.cons (.int .i64 0) (.cons (.sl true 4 .nil) (.cons (.int .i64 0) (.cons (.int .i64 0) (.cons (.sl true 1 .nil) .nil)))))
def Off.w (o:Off):D:=dQ o (.sl true 4 (dl Cs.s o.cs)) (.sl true 1 (dl D.str o.led))
def aFL (o:Off) (j:Nat) (l:List Ob):St:=⟨[(1,.d (.ptr o.s)),(2,.ptr 1 0 []),(3,.ptr j 0 [])],.dead :: .box zO :: (l ++ [.box (dQ o (.sl true 4 .nil) (.sl true 1 (dl D.str o.led)))])⟩
theorem aRz {F:(St->Prop)->Prop} {Q:St->Prop} (J:St->Prop) (h:F J) (h2:∀ s',J s'->∃ s1,gH s' s1/\Q s1):onJ F Q:=⟨J,h,h2⟩
theorem uM (v:List Int) (hlen:v.length<=1048576):Fn prog 84 [.sl false 1 (dl iD v)] (fun rs=>rs=[.sl true 1 (dl iD v)]):=by
 refine cW aTR [] ?_
 dsimp only [aTR,m84,rF,cS,cE,cR,c8]
 try simp only [wQ]
 simp only [cP,↓wA,↓wC,wB,cU,cT,bA,bB,bC,reduceIte,reduceCtorEq,aA,bD,dF]
 refine cO ⟨by omega,by omega⟩ ?_
 simp only [↓wA,↓wC,wB,cU,cT,bA,bB,bC,reduceIte,reduceCtorEq,aA,bD,dF]
theorem jG (o:Off) (ho:o.ok0):Fn prog 52 [o.s] (fun rs=>rs=[o.w]):=by
 have hlen:=ho.1.1
 have hlen2:=ho.2.1
 refine cW aVk [[1,1,0,1,0,0,1,0,0,1],[1,1,0,1,0,0,1,0,0,1],[1,0]] ?_
 dsimp only [aVk,m52,rF,cS,cE,cR,c8]
 try simp only [wQ]
 simp only [Off.s,dQ]
 repeat' (first|(simp only [cY,cZ,cK,cP,↓wA,↓wC,wB,cU,cT,bA,bB,bC,reduceIte,reduceCtorEq,aA,bD,dF])|((first|apply cH|apply cI|apply cG)<;>intro h<;>try simp only [h]))
 refine dB (gJ 0 rfl) ?_
 simp only [cU,cT,D.unown,fK,gD,cY,cZ,cK,cP,↓wA,↓wC,wB,cU,cT,bA,bB,bC,reduceIte,reduceCtorEq,aA,bD,dF]
 refine aRz (fun s=>gH s (aFL o 2 [])\/gH s (aFL o 3 [.dead])\/gH s (aFL o 4 [.dead,.dead])\/gH s (aFL o 5 [.dead,.dead,.dead])) ?_ ?_
 ·repeat' (first
   |(with_reducible refine aE ?_ ?_)
   |(with_reducible refine cO ?_ ?_; focus omega))
  all_goals (first|exact .inl (cV _ rfl ⟨⟨rfl,rfl⟩,⟨rfl,rfl⟩,⟨rfl,rfl⟩,trivial⟩)|exact .inr (.inl (cV _ rfl ⟨⟨rfl,rfl⟩,⟨rfl,rfl⟩,⟨rfl,rfl⟩,trivial⟩))|exact .inr (.inr (.inl (cV _ rfl ⟨⟨rfl,rfl⟩,⟨rfl,rfl⟩,⟨rfl,rfl⟩,trivial⟩)))|exact .inr (.inr (.inr (cV _ rfl ⟨⟨rfl,rfl⟩,⟨rfl,rfl⟩,⟨rfl,rfl⟩,trivial⟩)))|trace_state)
 ·rintro s' (h|h|h|h)
  ·refine ⟨_,h,?_⟩
   simp only [aFL,aD,aC,↓wA,↓wC,wB,cU,cT,bA,bB,bC,reduceIte,reduceCtorEq,aA,bD,dF]
   refine dV o.cs.length (fun i:Nat=>⟨[(1,.d (.ptr o.s)),(2,.ptr 1 0 []),(3,.ptr 2 0 []),(4,.d (.int .i64 i))],.dead :: .box zO :: ([] ++ [.box (dQ o (.sl true 4 (dl Cs.s (o.cs.take i))) (.sl true 1 (dl D.str o.led)))])⟩) (fun _=>True) ?_ trivial ?_ ?_
   ·exact (cV _ rfl ⟨⟨rfl,rfl⟩,⟨rfl,rfl⟩,⟨rfl,rfl⟩,⟨rfl,rfl⟩,trivial⟩)
   ·intro i hlt _ hd h0
    obtain ⟨x,hr⟩:=dW hlt
    have h1:Fn prog 84 [.sl false 1 (dl iD x.h)] (fun rs=>rs=[.sl false 1 (dl iD x.h)]):=by
     have h:=fH (uM x.h (ho.1.2 x (aG hr)))
     simpa [D.unown,dS] using h
    simp only [Off.s,dQ,aC]
    repeat' (first|(simp only [cP,hd,h0,dC,aB,hr,aF,cK,cY,cZ,↓lQ,aX3,aX6,↓wA,↓wC,wB,cU,cT,bA,bB,bC,reduceIte,reduceCtorEq,aA,bD,dF])|(refine cM (by simp only [dX]; omega) ?_)|((first|apply cH|apply cI|apply cG)<;>intro h<;>try simp only [h]))
    refine dB (gJ 3 rfl) ?_
    simp only [cU,cT,aX7,↓wA,↓wC,wB,cU,cT,bA,bB,bC,reduceIte,reduceCtorEq,aA,bD,dF]
    refine eY _ (fL 2 none [1] (es:=4) (xs:=dl Cs.s (o.cs.take i)) rfl rfl) fun v1=>?_
    simp only [eD,Cs.s,Cs.p,cY,cZ,cK,cP,↓wA,↓wC,wB,cU,cT,bA,bB,bC,reduceIte,reduceCtorEq,aA,bD,dF]
    repeat' (first|(simp only [cP,hd,h0,cK,cY,cZ,dE,↓wA,↓wC,wB,cU,cT,bA,bB,bC,reduceIte,reduceCtorEq,aA,bD,dF])|(refine dJ ?_)|(refine cJ h1 rfl rfl ?_)|(with_reducible refine cO ?_ ?_; focus omega)|(refine cM (by simp only [dX]; omega) ?_)|((first|apply cH|apply cI|apply cG)<;>intro h<;>try simp only [h]))
    refine cO (by simp) ?_
    have hl:(o.cs.take i).length=i:=by simp; omega
    refine cO (by rw [hl]; omega) ?_
    refine cM (by simp only [dX]; omega) ?_
    refine ⟨i + 1,?_,by omega,by omega⟩
    have happ:(dl Cs.s (o.cs.take i)).app ((D.st (.cons (.int .i64 x.i) (.cons (.int .i64 x.a) (.cons (.int .i64 x.d) (.cons (.sl false 1 (dl iD x.h)) .nil))))).cons .nil)=dl Cs.s (o.cs.take (i + 1)):=(hZ (f:=Cs.s) (o.cs.take i) x).trans (by rw [fG hr])
    rw [happ]
    exact (cV _ rfl ⟨⟨rfl,rfl⟩,⟨rfl,rfl⟩,⟨rfl,rfl⟩,⟨rfl,rfl⟩,trivial⟩)
   ·intro _ hd
    rw [aH]
    simp only [Off.s,dQ,aC]
    repeat' (first|(simp only [cP,hd,cK,↓wA,↓wC,wB,bA,bB,reduceIte,aA,dF])|((first|apply cH|apply cI|apply cG)<;>intro h<;>try simp only [h]))
    exact cO (cY _) (cO rfl (cO rfl rfl))
  ·refine ⟨_,h,?_⟩
   simp only [aFL,aD,aC,↓wA,↓wC,wB,cU,cT,bA,bB,bC,reduceIte,reduceCtorEq,aA,bD,dF]
   refine dV o.cs.length (fun i:Nat=>⟨[(1,.d (.ptr o.s)),(2,.ptr 1 0 []),(3,.ptr 3 0 []),(4,.d (.int .i64 i))],.dead :: .box zO :: ([.dead] ++ [.box (dQ o (.sl true 4 (dl Cs.s (o.cs.take i))) (.sl true 1 (dl D.str o.led)))])⟩) (fun _=>True) ?_ trivial ?_ ?_
   ·exact (cV _ rfl ⟨⟨rfl,rfl⟩,⟨rfl,rfl⟩,⟨rfl,rfl⟩,⟨rfl,rfl⟩,trivial⟩)
   ·intro i hlt _ hd h0
    obtain ⟨x,hr⟩:=dW hlt
    have h1:Fn prog 84 [.sl false 1 (dl iD x.h)] (fun rs=>rs=[.sl false 1 (dl iD x.h)]):=by
     have h:=fH (uM x.h (ho.1.2 x (aG hr)))
     simpa [D.unown,dS] using h
    simp only [Off.s,dQ,aD,aC]
    repeat' (first|(simp only [cP,hd,h0,dC,aB,hr,aF,cK,cY,cZ,↓lQ,aX3,aX6,↓wA,↓wC,wB,cU,cT,bA,bB,bC,reduceIte,reduceCtorEq,aA,bD,dF])|(refine cM (by simp only [dX]; omega) ?_)|((first|apply cH|apply cI|apply cG)<;>intro h<;>try simp only [h]))
    refine dB (gJ 4 rfl) ?_
    simp only [cU,cT,aX7,↓wA,↓wC,wB,cU,cT,bA,bB,bC,reduceIte,reduceCtorEq,aA,bD,dF]
    refine eY _ (fL 3 none [1] (es:=4) (xs:=dl Cs.s (o.cs.take i)) rfl rfl) fun v1=>?_
    simp only [eD,Cs.s,Cs.p,cY,cZ,cK,cP,↓wA,↓wC,wB,cU,cT,bA,bB,bC,reduceIte,reduceCtorEq,aA,bD,dF]
    repeat' (first|(simp only [cP,hd,h0,cK,cY,cZ,dE,↓wA,↓wC,wB,cU,cT,bA,bB,bC,reduceIte,reduceCtorEq,aA,bD,dF])|(refine dJ ?_)|(refine cJ h1 rfl rfl ?_)|(with_reducible refine cO ?_ ?_; focus omega)|(refine cM (by simp only [dX]; omega) ?_)|((first|apply cH|apply cI|apply cG)<;>intro h<;>try simp only [h]))
    refine cO (by simp) ?_
    have hl:(o.cs.take i).length=i:=by simp; omega
    refine cO (by rw [hl]; omega) ?_
    refine cM (by simp only [dX]; omega) ?_
    refine ⟨i + 1,?_,by omega,by omega⟩
    have happ:(dl Cs.s (o.cs.take i)).app ((D.st (.cons (.int .i64 x.i) (.cons (.int .i64 x.a) (.cons (.int .i64 x.d) (.cons (.sl false 1 (dl iD x.h)) .nil))))).cons .nil)=dl Cs.s (o.cs.take (i + 1)):=(hZ (f:=Cs.s) (o.cs.take i) x).trans (by rw [fG hr])
    rw [happ]
    exact (cV _ rfl ⟨⟨rfl,rfl⟩,⟨rfl,rfl⟩,⟨rfl,rfl⟩,⟨rfl,rfl⟩,trivial⟩)
   ·intro _ hd
    rw [aH]
    simp only [Off.s,dQ,aD,aC]
    repeat' (first|(simp only [cP,hd,cK,↓wA,↓wC,wB,bA,bB,reduceIte,aA,dF])|((first|apply cH|apply cI|apply cG)<;>intro h<;>try simp only [h]))
    exact cO (cY _) (cO rfl (cO rfl rfl))
  ·refine ⟨_,h,?_⟩
   simp only [aFL,aD,aC,↓wA,↓wC,wB,cU,cT,bA,bB,bC,reduceIte,reduceCtorEq,aA,bD,dF]
   refine dV o.cs.length (fun i:Nat=>⟨[(1,.d (.ptr o.s)),(2,.ptr 1 0 []),(3,.ptr 4 0 []),(4,.d (.int .i64 i))],.dead :: .box zO :: ([.dead,.dead] ++ [.box (dQ o (.sl true 4 (dl Cs.s (o.cs.take i))) (.sl true 1 (dl D.str o.led)))])⟩) (fun _=>True) ?_ trivial ?_ ?_
   ·exact (cV _ rfl ⟨⟨rfl,rfl⟩,⟨rfl,rfl⟩,⟨rfl,rfl⟩,⟨rfl,rfl⟩,trivial⟩)
   ·intro i hlt _ hd h0
    obtain ⟨x,hr⟩:=dW hlt
    have h1:Fn prog 84 [.sl false 1 (dl iD x.h)] (fun rs=>rs=[.sl false 1 (dl iD x.h)]):=by
     have h:=fH (uM x.h (ho.1.2 x (aG hr)))
     simpa [D.unown,dS] using h
    simp only [Off.s,dQ,aD,aC]
    repeat' (first|(simp only [cP,hd,h0,dC,aB,hr,aF,cK,cY,cZ,↓lQ,aX3,aX6,↓wA,↓wC,wB,cU,cT,bA,bB,bC,reduceIte,reduceCtorEq,aA,bD,dF])|(refine cM (by simp only [dX]; omega) ?_)|((first|apply cH|apply cI|apply cG)<;>intro h<;>try simp only [h]))
    refine dB (gJ 5 rfl) ?_
    simp only [cU,cT,aX7,↓wA,↓wC,wB,cU,cT,bA,bB,bC,reduceIte,reduceCtorEq,aA,bD,dF]
    refine eY _ (fL 4 none [1] (es:=4) (xs:=dl Cs.s (o.cs.take i)) rfl rfl) fun v1=>?_
    simp only [eD,Cs.s,Cs.p,cY,cZ,cK,cP,↓wA,↓wC,wB,cU,cT,bA,bB,bC,reduceIte,reduceCtorEq,aA,bD,dF]
    repeat' (first|(simp only [cP,hd,h0,cK,cY,cZ,dE,↓wA,↓wC,wB,cU,cT,bA,bB,bC,reduceIte,reduceCtorEq,aA,bD,dF])|(refine dJ ?_)|(refine cJ h1 rfl rfl ?_)|(with_reducible refine cO ?_ ?_; focus omega)|(refine cM (by simp only [dX]; omega) ?_)|((first|apply cH|apply cI|apply cG)<;>intro h<;>try simp only [h]))
    refine cO (by simp) ?_
    have hl:(o.cs.take i).length=i:=by simp; omega
    refine cO (by rw [hl]; omega) ?_
    refine cM (by simp only [dX]; omega) ?_
    refine ⟨i + 1,?_,by omega,by omega⟩
    have happ:(dl Cs.s (o.cs.take i)).app ((D.st (.cons (.int .i64 x.i) (.cons (.int .i64 x.a) (.cons (.int .i64 x.d) (.cons (.sl false 1 (dl iD x.h)) .nil))))).cons .nil)=dl Cs.s (o.cs.take (i + 1)):=(hZ (f:=Cs.s) (o.cs.take i) x).trans (by rw [fG hr])
    rw [happ]
    exact (cV _ rfl ⟨⟨rfl,rfl⟩,⟨rfl,rfl⟩,⟨rfl,rfl⟩,⟨rfl,rfl⟩,trivial⟩)
   ·intro _ hd
    rw [aH]
    simp only [Off.s,dQ,aD,aC]
    repeat' (first|(simp only [cP,hd,cK,↓wA,↓wC,wB,bA,bB,reduceIte,aA,dF])|((first|apply cH|apply cI|apply cG)<;>intro h<;>try simp only [h]))
    exact cO (cY _) (cO rfl (cO rfl rfl))
  ·refine ⟨_,h,?_⟩
   simp only [aFL,aD,aC,↓wA,↓wC,wB,cU,cT,bA,bB,bC,reduceIte,reduceCtorEq,aA,bD,dF]
   refine dV o.cs.length (fun i:Nat=>⟨[(1,.d (.ptr o.s)),(2,.ptr 1 0 []),(3,.ptr 5 0 []),(4,.d (.int .i64 i))],.dead :: .box zO :: ([.dead,.dead,.dead] ++ [.box (dQ o (.sl true 4 (dl Cs.s (o.cs.take i))) (.sl true 1 (dl D.str o.led)))])⟩) (fun _=>True) ?_ trivial ?_ ?_
   ·exact (cV _ rfl ⟨⟨rfl,rfl⟩,⟨rfl,rfl⟩,⟨rfl,rfl⟩,⟨rfl,rfl⟩,trivial⟩)
   ·intro i hlt _ hd h0
    obtain ⟨x,hr⟩:=dW hlt
    have h1:Fn prog 84 [.sl false 1 (dl iD x.h)] (fun rs=>rs=[.sl false 1 (dl iD x.h)]):=by
     have h:=fH (uM x.h (ho.1.2 x (aG hr)))
     simpa [D.unown,dS] using h
    simp only [Off.s,dQ,aD,aC]
    repeat' (first|(simp only [cP,hd,h0,dC,aB,hr,aF,cK,cY,cZ,↓lQ,aX3,aX6,↓wA,↓wC,wB,cU,cT,bA,bB,bC,reduceIte,reduceCtorEq,aA,bD,dF])|(refine cM (by simp only [dX]; omega) ?_)|((first|apply cH|apply cI|apply cG)<;>intro h<;>try simp only [h]))
    refine dB (gJ 6 rfl) ?_
    simp only [cU,cT,aX7,↓wA,↓wC,wB,cU,cT,bA,bB,bC,reduceIte,reduceCtorEq,aA,bD,dF]
    refine eY _ (fL 5 none [1] (es:=4) (xs:=dl Cs.s (o.cs.take i)) rfl rfl) fun v1=>?_
    simp only [eD,Cs.s,Cs.p,cY,cZ,cK,cP,↓wA,↓wC,wB,cU,cT,bA,bB,bC,reduceIte,reduceCtorEq,aA,bD,dF]
    repeat' (first|(simp only [cP,hd,h0,cK,cY,cZ,dE,↓wA,↓wC,wB,cU,cT,bA,bB,bC,reduceIte,reduceCtorEq,aA,bD,dF])|(refine dJ ?_)|(refine cJ h1 rfl rfl ?_)|(with_reducible refine cO ?_ ?_; focus omega)|(refine cM (by simp only [dX]; omega) ?_)|((first|apply cH|apply cI|apply cG)<;>intro h<;>try simp only [h]))
    refine cO (by simp) ?_
    have hl:(o.cs.take i).length=i:=by simp; omega
    refine cO (by rw [hl]; omega) ?_
    refine cM (by simp only [dX]; omega) ?_
    refine ⟨i + 1,?_,by omega,by omega⟩
    have happ:(dl Cs.s (o.cs.take i)).app ((D.st (.cons (.int .i64 x.i) (.cons (.int .i64 x.a) (.cons (.int .i64 x.d) (.cons (.sl false 1 (dl iD x.h)) .nil))))).cons .nil)=dl Cs.s (o.cs.take (i + 1)):=(hZ (f:=Cs.s) (o.cs.take i) x).trans (by rw [fG hr])
    rw [happ]
    exact (cV _ rfl ⟨⟨rfl,rfl⟩,⟨rfl,rfl⟩,⟨rfl,rfl⟩,⟨rfl,rfl⟩,trivial⟩)
   ·intro _ hd
    rw [aH]
    simp only [Off.s,dQ,aD,aC]
    repeat' (first|(simp only [cP,hd,cK,↓wA,↓wC,wB,bA,bB,reduceIte,aA,dF])|((first|apply cH|apply cI|apply cG)<;>intro h<;>try simp only [h]))
    exact cO (cY _) (cO rfl (cO rfl rfl))
theorem aH4 (o:Off) (k id a v:Int) (ho:o.ok0):Fn prog 128 [o.s,jD k id a v] (fun rs=>rs=[.bool (lX o k id a v)]):=by
 have hF:=jU o id ho
 have hid:=iA id 1 999
 have ha:=iA a 1 3
 have hv:=iA v 1 9
 unfold lX
 refine cW aRD [] ?_
 dsimp only [aRD,aTV,rF,cS,cE,cR,c8]
 try simp only [wQ]
 simp only [jD]
 repeat' (first|(simp only [aXW,aXX,aX2,↓dL,cK,↓wA,↓wC,wB,cU,cT,bA,bB,bC,reduceIte,reduceCtorEq,aA,bD,dF])|(refine cJ hF (by simp [dA,dK]) rfl ?_)|(refine cJ (hid) rfl rfl ?_)|(refine cL (hid) rfl rfl ?_)|(refine cJ (ha) rfl rfl ?_)|(refine cL (ha) rfl rfl ?_)|(refine cJ (hv) rfl rfl ?_)|(refine cL (hv) rfl rfl ?_)|((first|apply cH|apply cI|apply cG)<;>intro h<;>try simp only [h]))
 all_goals simp_all
theorem aFk (o:Off) (k id a v:Int) (ho:o.ok0) (hb:dX .i64 (o.day + v)):Fn prog 168 [o.s,jD k id a v] (fun rs=>rs=[Off.w { o with cs:=iE ⟨id,a,o.day + v,[]⟩ o.cs }]):=by
 have hO:=jG o ho
 have hno:o.w.noOwn=false:=by simp [Off.w,dQ,D.noOwn]
 have hwV:o.w.isV=true:=rfl
 have hwS:o.w.size=5:=rfl
 have hlen:=ho.1.1
 refine cW aQH [[1,1,1,1,1,0],[1,1,0],[1,1,0],[1,1,0]] ?_
 dsimp only [aQH,aVu,rF,cS,cE,cR,c8]
 try simp only [wQ]
 simp only [jD]
 repeat' (first|(simp only [aXW,aXX,aX2,hno,hwV,hwS,↓dL,cK,↓wA,↓wC,wB,cU,cT,bA,bB,bC,reduceIte,reduceCtorEq,aA,bD,dF])|(refine cJ hO (by simp [dA,dK]) rfl ?_)|((first|apply cH|apply cI|apply cG)<;>intro h<;>try simp only [h]))
 refine dB (gJ 0 rfl) ?_
 simp only [cU,cT,aX1,↓wA,↓wC,wB,cU,cT,bA,bB,bC,reduceIte,reduceCtorEq,aA,bD,dF]
 refine dB (gJ 1 rfl) ?_
 simp only [cU,cT,D.unown,↓wA,↓wC,wB,cU,cT,bA,bB,bC,reduceIte,reduceCtorEq,aA,bD,dF]
 refine dB (freeze 4 none [1] (x:=.sl true 4 (dl Cs.s o.cs)) rfl rfl rfl) ?_
 simp only [eD,Off.w,dQ,D.unown,fK,↓wA,↓wC,wB,cU,cT,bA,bB,bC,reduceIte,reduceCtorEq,aA,bD,dF]
 refine eK (fun j:Nat=>⟨[(2,.d (.ptr o.s)),(3,.d (.ptr (jD k id a v))),(4,.ptr 2 0 []),(5,.ptr 4 0 []),(6,.d (.int .i64 j))],[.dead,.dead,.box zO,.dead,.box (dQ o (.sl false 4 (dl Cs.s o.cs)) (.sl true 1 (dl D.str o.led)))]⟩) (fun j=>j<=o.cs.length/\∀ m x,m < j->o.cs[m]?=some x->x.i < id) (fun j=>o.cs.length - j) 0 (cV _ rfl ⟨⟨rfl,rfl⟩,⟨rfl,rfl⟩,⟨rfl,rfl⟩,⟨rfl,rfl⟩,⟨rfl,rfl⟩,trivial⟩) ⟨by omega,fun m x hm=>by omega⟩ ?_
 rintro j ⟨hj1,hj2⟩
 simp only [dQ,jD]
 have hcm:∀ x:Cs,Cs.s x=x.p (.sl false 1 (dl iD x.h)):=fun _=>rfl
 have hj0:(0:Int)<=(j:Int):=by omega
 by_cases hlt:j < o.cs.length
 ·obtain ⟨x,hr⟩:=dW hlt
  have hd:decide ((j:Int) < (o.cs.length:Int))=true:=decide_eq_true (by omega)
  cases hx:decide (x.i < id) with
  | true =>
   repeat' (first|(simp only [cK,cP,dC,hd,hx,hr,hj0,Cs.s,Cs.p,cY,cZ,aB,aF,xH,xF,↓wA,↓wC,wB,cU,cT,bA,bB,bC,reduceIte,reduceCtorEq,aA,bD,dF])|(with_reducible refine cM ?_ ?_; focus (simp only [dX]; omega))|((first|apply cH|apply cI|apply cG)<;>intro h<;>try simp only [h]))
   refine ⟨j + 1,(cV _ rfl ⟨⟨rfl,rfl⟩,⟨rfl,rfl⟩,⟨rfl,rfl⟩,⟨rfl,rfl⟩,⟨rfl,rfl⟩,trivial⟩),⟨by omega,fun m y hm hy=>?_⟩,by omega⟩
   by_cases e:m=j
   ·subst e
    rw [hr] at hy
    injection hy with hy
    rw [<- hy]; exact of_decide_eq_true hx
   ·exact hj2 m y (by omega) hy
  | false =>
   have hpl:pW id o.cs=j:=qG o.cs j hj1 hj2 (fun y hy=>by rw [hr] at hy; injection hy with hy; rw [<- hy]; exact of_decide_eq_false hx)
   repeat' (first|(simp only [cK,cP,dC,hd,hx,hr,hj0,Off.s,dQ,Cs.s,Cs.p,cY,cZ,aB,aF,xH,xF,↓wA,↓wC,wB,cU,cT,bA,bB,bC,reduceIte,reduceCtorEq,aA,bD,dF])|(with_reducible refine cM hb ?_)|(with_reducible refine cM ?_ ?_; focus (simp only [dX]; omega))|((first|apply cH|apply cI|apply cG)<;>intro h<;>try simp only [h]))
   refine dB (gJ 7 rfl) ?_
   simp only [cU,cT,D.unown,↓wA,↓wC,wB,cU,cT,bA,bB,bC,reduceIte,reduceCtorEq,aA,bD,dF]
   repeat' (first|(simp only [cK,cP,cY,cZ,↓wA,↓wC,wB,bA,bB,reduceIte,aA,dF])|(refine dJ ?_)|(with_reducible refine aE ?_ ?_)|(with_reducible refine cM ?_ ?_; focus (simp only [dX]; omega))|((first|apply cH|apply cI|apply cG)<;>intro h<;>try simp only [h]))
   have hs1:(dl Cs.s o.cs).sub 0 j=dl Cs.s (o.cs.take j):=by rw [oO]; rfl
   have hs2:(dl Cs.s o.cs).sub j o.cs.length=dl Cs.s (o.cs.drop j):=by rw [oO,aH]
   have happ:∀ xs:List Cs,(dl Cs.s xs).app (D.cons (D.st (.cons (.int .i64 id) (.cons (.int .i64 a) (.cons (.int .i64 (o.day + v)) (.cons (.sl false 1 .nil) .nil))))) .nil)=dl Cs.s (xs ++ [⟨id,a,o.day + v,[]⟩]):=fun xs=>hZ (f:=Cs.s) xs ⟨id,a,o.day + v,[]⟩
   have hen:iE ⟨id,a,o.day + v,[]⟩ o.cs=(o.cs.take j ++ [⟨id,a,o.day + v,[]⟩]) ++ o.cs.drop j:=by unfold iE; rw [hpl]; simp
   rw [hen]
   clear hen
   simp only [aB,hs1,hs2,happ,vX,cP,aO,aQ,aR,aM,aJ hj1]
   repeat' (first|(with_reducible refine aE ?_ ?_)|(with_reducible refine cO ?_ ?_; focus omega)|(with_reducible refine cO ?_ ?_; focus (simp; done))|(with_reducible refine cO ?_ ?_; focus rfl)|rfl)
   all_goals exact cO rfl (cO rfl trivial)
 ·have hd:decide ((j:Int) < (o.cs.length:Int))=false:=decide_eq_false (by omega)
  have hpl:pW id o.cs=j:=qG o.cs j hj1 hj2 (fun y hy=>by have:=cQ hy; omega)
  repeat' (first|(simp only [cK,cP,dC,hd,hd,hd,hj0,Off.s,dQ,Cs.s,Cs.p,cY,cZ,aB,aF,xH,xF,↓wA,↓wC,wB,cU,cT,bA,bB,bC,reduceIte,reduceCtorEq,aA,bD,dF])|(with_reducible refine cM hb ?_)|(with_reducible refine cM ?_ ?_; focus (simp only [dX]; omega))|((first|apply cH|apply cI|apply cG)<;>intro h<;>try simp only [h]))
  refine dB (gJ 7 rfl) ?_
  simp only [cU,cT,D.unown,↓wA,↓wC,wB,cU,cT,bA,bB,bC,reduceIte,reduceCtorEq,aA,bD,dF]
  repeat' (first|(simp only [cK,cP,cY,cZ,↓wA,↓wC,wB,bA,bB,reduceIte,aA,dF])|(refine dJ ?_)|(with_reducible refine aE ?_ ?_)|(with_reducible refine cM ?_ ?_; focus (simp only [dX]; omega))|((first|apply cH|apply cI|apply cG)<;>intro h<;>try simp only [h]))
  have hs1:(dl Cs.s o.cs).sub 0 j=dl Cs.s (o.cs.take j):=by rw [oO]; rfl
  have hs2:(dl Cs.s o.cs).sub j o.cs.length=dl Cs.s (o.cs.drop j):=by rw [oO,aH]
  have happ:∀ xs:List Cs,(dl Cs.s xs).app (D.cons (D.st (.cons (.int .i64 id) (.cons (.int .i64 a) (.cons (.int .i64 (o.day + v)) (.cons (.sl false 1 .nil) .nil))))) .nil)=dl Cs.s (xs ++ [⟨id,a,o.day + v,[]⟩]):=fun xs=>hZ (f:=Cs.s) xs ⟨id,a,o.day + v,[]⟩
  have hen:iE ⟨id,a,o.day + v,[]⟩ o.cs=(o.cs.take j ++ [⟨id,a,o.day + v,[]⟩]) ++ o.cs.drop j:=by unfold iE; rw [hpl]; simp
  rw [hen]
  clear hen
  simp only [aB,hs1,hs2,happ,vX,cP,aO,aQ,aR,aM,aJ hj1]
  repeat' (first|(with_reducible refine aE ?_ ?_)|(with_reducible refine cO ?_ ?_; focus omega)|(with_reducible refine cO ?_ ?_; focus (simp; done))|(with_reducible refine cO ?_ ?_; focus rfl)|rfl)
  all_goals exact cO rfl (cO rfl trivial)
def aAq (v:Int) (h:List Int):List Int:=h.filter fun n=>!decide (n=v)
theorem aHW {v r:Int} {h:List Int} {k:Nat} (hr:h[k]?=some r):aAq v (h.take (k + 1))=aAq v (h.take k) ++ (if r=v then [] else [r]):=by
 rw [fG hr]
 unfold aAq
 rw [List.filter_append]
 by_cases e:r=v
 ·simp [e]
 ·simp [e]
theorem aJ1 {v r:Int} {h:List Int} {k:Nat} (hr:h[k]?=some r):(h.take (k + 1)).contains v=((h.take k).contains v || decide (v=r)):=by
 rw [fG hr]
 simp [List.contains_eq_any_beq,List.any_append]
theorem aMI (v:Int) (h:List Int):(aAq v h).length<=h.length:=aW _ _
theorem aDd (o:Off) (v:Int) (ho:o.ok0):Fn prog 170 [o.s,.int .i64 v] (fun rs=>rs=[Off.w { o with cs:=o.cs.map (s8 v) },.bool (vC v o.cs)]):=by
 have hO:=jG o ho
 have hno:o.w.noOwn=false:=by simp [Off.w,dQ,D.noOwn]
 have hwV:o.w.isV=true:=rfl
 have hwS:o.w.size=5:=rfl
 have hlen:=ho.1.1
 refine cW aRm [[1,1,0,1,0,0,1,0,0,1,1],[1,1,0,0],[1,1,1,0]] ?_
 dsimp only [aRm,aWh,rF,cS,cE,cR,c8]
 try simp only [wQ]
 repeat' (first|(simp only [aXW,aXX,aX2,hno,hwV,hwS,↓dL,cK,↓wA,↓wC,wB,cU,cT,bA,bB,bC,reduceIte,reduceCtorEq,aA,bD,dF])|(refine cJ hO (by simp [dA,dK]) rfl ?_)|((first|apply cH|apply cI|apply cG)<;>intro h<;>try simp only [h]))
 simp only [Off.w,dQ]
 refine eY _ (fL 3 none [1] (es:=4) (xs:=dl Cs.s o.cs) rfl rfl) fun v1=>?_
 simp only [eD,cK,cP,↓wA,↓wC,wB,cU,cT,bA,bB,bC,reduceIte,reduceCtorEq,aA,bD,dF]
 refine dV o.cs.length (fun i:Nat=>⟨[(1,.d (.int .i64 v)),(4,.ptr 1 0 []),(6,.ptr 3 0 []),(7,.d (.bool (vC v (o.cs.take i)))),(8,.d (.int .i64 i))],[.box o.s,.box zO,.dead,.box (dQ o (.lnk 5 v1) (.sl true 1 (dl D.str o.led))),.val (.sl true 4 (dl Cs.s (sS v o.cs i))),.tag 4 v1]⟩) (fun _=>True) ?_ trivial ?_ ?_
 ·exact (cV _ rfl ⟨⟨rfl,rfl⟩,⟨rfl,rfl⟩,⟨rfl,rfl⟩,⟨rfl,rfl⟩,⟨rfl,rfl⟩,trivial⟩)
 ·intro i hlt _ hd h0
  obtain ⟨x,hr⟩:=dW hlt
  have hg:=aGB (v:=v) hr
  have hxo:=ho.1.2 x (aG hr)
  have hxl:x.h.length<=1048576:=hxo
  have hxs:Cs.s x=x.p (.sl false 1 (dl iD x.h)):=rfl
  have hgs:∀ (y:D),((dl Cs.s (sS v o.cs i)).setN i y).nth i=some y:=fun y=>by rw [oZ,if_pos rfl,dC,hg]; rfl
  have hgn:(dl Cs.s (sS v o.cs i)).nth i=some (x.p (.sl false 1 (dl iD x.h))):=by rw [dC,hg]; rfl
  have hx:=aEb (v:=v) hr
  simp only [dQ]
  repeat' (first|(simp only [cP,tD,hd,h0,cK,↓wA,↓wC,wB,cU,cT,bA,bB,bC,reduceIte,reduceCtorEq,aA,bD,dF])|((first|apply cH|apply cI|apply cG)<;>intro h<;>try simp only [h]))
  refine dV x.h.length (fun k:Nat=>⟨[(1,.d (.int .i64 v)),(4,.ptr 1 0 []),(6,.ptr 3 0 []),(7,.d (.bool (vC v (o.cs.take i) || (x.h.take k).contains v))),(8,.d (.int .i64 i)),(9,.own 6),(10,.d (.int .i64 k))],[.box o.s,.box zO,.dead,.box (dQ o (.lnk 5 v1) (.sl true 1 (dl D.str o.led))),.val (.sl true 4 (dl Cs.s (sS v o.cs i))),.tag 4 v1,.val (.sl true 1 (dl iD (aAq v (x.h.take k))))]⟩) (fun _=>True) ?_ trivial ?_ ?_
  ·rw [List.take_zero,show ([]:List Int).contains v=false from rfl,a7]
   exact (cV _ rfl ⟨⟨rfl,rfl⟩,⟨rfl,rfl⟩,⟨rfl,rfl⟩,⟨rfl,rfl⟩,⟨rfl,rfl⟩,⟨rfl,rfl⟩,⟨rfl,rfl⟩,trivial⟩)
  ·intro k hk _ hkd hk0
   obtain ⟨r,hkr⟩:=dW hk
   have hlx:=aHW (v:=v) hkr
   have hhx:=aJ1 (v:=v) hkr
   simp only [dQ]
   cases hrv:decide (r=v) with
   | true =>
    have hrv':=of_decide_eq_true hrv
    rw [if_pos hrv',List.append_nil] at hlx
    rw [decide_eq_true hrv'.symm,a8] at hhx
    repeat' (first|(simp only [cP,tD,hd,h0,hkd,hk0,hrv,hgn,dC,hkr,aB,aF,sZ,dE,cK,jL,fY,iB,↓wA,↓wC,wB,cU,cT,bA,bB,bC,reduceIte,reduceCtorEq,aA,bD,dF])|(with_reducible refine cM ?_ ?_; focus (simp only [dX]; omega))|((first|apply cH|apply cI|apply cG)<;>intro h<;>try simp only [h]))
    refine ⟨k + 1,?_,by omega,by omega⟩
    rw [hlx,hhx,a8]
    exact (cV _ rfl ⟨⟨rfl,rfl⟩,⟨rfl,rfl⟩,⟨rfl,rfl⟩,⟨rfl,rfl⟩,⟨rfl,rfl⟩,⟨rfl,rfl⟩,⟨rfl,rfl⟩,trivial⟩)
   | false =>
    have hrv':=of_decide_eq_false hrv
    rw [if_neg hrv'] at hlx
    rw [decide_eq_false (fun e=>hrv' e.symm),a7] at hhx
    repeat' (first|(simp only [cP,tD,hd,h0,hkd,hk0,hrv,hgn,dC,hkr,aB,aF,sZ,dE,cK,jL,fY,iB,↓wA,↓wC,wB,cU,cT,bA,bB,bC,reduceIte,reduceCtorEq,aA,bD,dF])|(with_reducible refine cM ?_ ?_; focus (simp only [dX]; omega))|((first|apply cH|apply cI|apply cG)<;>intro h<;>try simp only [h]))
    have hll:=aMI v (x.h.take k)
    have hlt2:(x.h.take k).length<=k:=by simp; omega
    refine cO (by simp) ?_
    refine cO (by omega) ?_
    refine cM (by simp only [dX]; omega) ?_
    have happ:(dl iD (aAq v (x.h.take k))).app (D.cons (.int .i64 r) .nil)=dl iD (aAq v (x.h.take (k + 1))):=(hZ (f:=iD) _ r).trans (by rw [hlx])
    rw [happ]
    refine ⟨k + 1,?_,by omega,by omega⟩
    rw [hhx]
    exact (cV _ rfl ⟨⟨rfl,rfl⟩,⟨rfl,rfl⟩,⟨rfl,rfl⟩,⟨rfl,rfl⟩,⟨rfl,rfl⟩,⟨rfl,rfl⟩,⟨rfl,rfl⟩,trivial⟩)
  ·intro _ hkd
   rw [aH]
   simp only [dQ]
   repeat' (first|(simp only [cP,tD,hd,h0,hkd,hgn,dC,aB,aF,dE,cK,jL,fY,iB,↓wA,↓wC,wB,cU,cT,bA,bB,bC,reduceIte,reduceCtorEq,aA,bD,dF])|((first|apply cH|apply cI|apply cG)<;>intro h<;>try simp only [h]))
   refine dB (aHE 6 rfl) ?_
   simp only [v6,tC,D.unown,dS,↓wA,↓wC,wB,cU,cT,bA,bB,bC,reduceIte,reduceCtorEq,aA,bD,dF]
   repeat' (first|(simp only [cP,tD,hd,h0,hgn,hgs,kK,dC,aB,aF,dE,cK,jL,fY,iB,↓wA,↓wC,wB,cU,cT,bA,bB,bC,reduceIte,reduceCtorEq,aA,bD,dF])|(with_reducible refine cM ?_ ?_; focus (simp only [dX]; omega))|((first|apply cH|apply cI|apply cG)<;>intro h<;>try simp only [h]))
   have e:x.p (.sl false 1 (dl iD (aAq v x.h)))=Cs.s (s8 v x):=rfl
   rw [e,kH,aCM hr]
   refine ⟨i + 1,?_,by omega,by omega⟩
   rw [hx]
   exact (cV _ rfl ⟨⟨rfl,rfl⟩,⟨rfl,rfl⟩,⟨rfl,rfl⟩,⟨rfl,rfl⟩,⟨rfl,rfl⟩,trivial⟩)
 ·intro _ hd
  have er:sS v o.cs o.cs.length=o.cs.map (s8 v):=by simp [sS]
  rw [er,aH]
  simp only [dQ]
  repeat' (first|(simp only [cP,List.length_map,hd,cK,↓wA,↓wC,wB,cU,cT,bA,bB,bC,reduceIte,reduceCtorEq,aA,bD,dF])|((first|apply cH|apply cI|apply cG)<;>intro h<;>try simp only [h]))
  refine dB (iU 3 5 4 none [1] rfl rfl rfl rfl (by decide) rfl) ?_
  simp only [eD,↓wA,↓wC,wB,bA,bB,reduceIte,aA,dF]
  repeat' (first|(simp only [cZ,cK,↓wA,↓wC,wB,cU,cT,bA,bB,bC,reduceIte,reduceCtorEq,aA,bD,dF])|((first|apply cH|apply cI|apply cG)<;>intro h<;>try simp only [h]))
  exact cO rfl (cO rfl trivial)
theorem aMU (v:List Int) (p:Int) (hlen:v.length<=1048576) (hp:p ∉ v):Fn prog 169 [.sl false 1 (dl iD v),.int .i64 p] (fun rs=>rs=[.sl true 1 (dl iD (j6 p v))]):=by
 refine cW aRT [] ?_
 dsimp only [aRT,aUr,rF,cS,cE,cR,c8]
 try simp only [wQ]
 simp only [↓wA,↓wC,wB,bA,bB,reduceIte,reduceCtorEq]
 refine eK (fun k:Nat=>⟨[(0,.d (.sl false 1 (dl iD v))),(1,.d (.int .i64 p)),(5,.d (.int .i64 k))],[]⟩) (fun k=>k<=v.length/\∀ m x,m < k->v[m]?=some x->x < p) (fun k=>v.length - k) 0 (cV _ rfl ⟨⟨rfl,rfl⟩,⟨rfl,rfl⟩,⟨rfl,rfl⟩,trivial⟩) ⟨by omega,fun m x hm _=>by omega⟩ ?_
 rintro k ⟨hk,hinv⟩
 have h0:(0:Int)<=(k:Int):=by omega
 have hs1:(dl iD v).sub 0 k=dl iD (v.take k):=by rw [oO]; rfl
 have hs2:(dl iD v).sub k v.length=dl iD (v.drop k):=by rw [oO,aH]
 have hs3:(dl iD v).sub v.length v.length=dl iD (v.drop v.length):=by rw [oO,aH]
 have hs4:(dl iD v).sub 0 v.length=dl iD (v.take v.length):=by rw [oO]; rfl
 by_cases hlt:k < v.length
 ·obtain ⟨x,hx⟩:=dW hlt
  have hd:decide ((k:Int) < (v.length:Int))=true:=decide_eq_true (by omega)
  cases hc:decide (x < p) with
  | true =>
   repeat' (first|(simp only [cP,hd,h0,hc,dC,aB,hx,aF,sZ,cK,↓wA,↓wC,wB,bA,reduceIte,reduceCtorEq])|(with_reducible refine cM ?_ ?_; focus (simp only [dX]; omega))|((first|apply cH|apply cI|apply cG)<;>intro h<;>try simp only [h]))
   refine ⟨k + 1,(cV _ rfl ⟨⟨rfl,rfl⟩,⟨rfl,rfl⟩,⟨rfl,rfl⟩,trivial⟩),⟨by omega,fun m z hm hz=>?_⟩,by omega⟩
   by_cases e:m=k
   ·subst e
    rw [hx] at hz
    injection hz with hz
    rw [<- hz]
    exact of_decide_eq_true hc
   ·exact hinv m z (by omega) hz
  | false =>
   have hpos:=aEy v k hk hinv (fun z hz=>by
    rw [hx] at hz
    injection hz with hz
    rw [<- hz]
    exact of_decide_eq_false hc)
   have hne:decide (x=p)=false:=decide_eq_false (fun e=>hp (e ▸ aG hx))
   rw [j6,hpos]
   repeat' (first|(simp only [cP,hd,h0,hc,hne,dC,aB,hx,aF,sZ,cK,↓wA,↓wC,wB,bA,reduceIte,reduceCtorEq,aA])|(refine dJ ?_)|(with_reducible refine aE ?_ ?_)|(with_reducible refine cO ?_ ?_; focus omega)|(with_reducible refine cO ?_ ?_; focus (simp; done))|(with_reducible refine cO ?_ ?_; focus (simp; omega))|(with_reducible refine cM ?_ ?_; focus (simp only [dX]; omega))|((first|apply cH|apply cI|apply cG)<;>intro h<;>try simp only [h]))
   all_goals
    simp only [hs1,hs2,jR,vX,cP,aO,aQ,aR,aM,aJ hk]
    repeat' (first|(with_reducible refine cO ?_ ?_; focus omega)|(with_reducible refine cO ?_ ?_; focus (simp; done)))
    all_goals simp [a6]
 ·have hd:decide ((k:Int) < (v.length:Int))=false:=decide_eq_false (by omega)
  have e:k=v.length:=by omega
  have hpos:=aEy v k hk hinv (fun z hz=>absurd (cQ hz) (by omega))
  rw [j6,hpos]
  subst e
  repeat' (first|(simp only [cP,hd,h0,aB,cK,↓wA,↓wC,wB,bA,reduceIte,reduceCtorEq,aA])|(refine dJ ?_)|(with_reducible refine aE ?_ ?_)|(with_reducible refine cO ?_ ?_; focus omega)|(with_reducible refine cO ?_ ?_; focus (simp; done))|(with_reducible refine cO ?_ ?_; focus (simp; omega))|(with_reducible refine cM ?_ ?_; focus (simp only [dX]; omega))|((first|apply cH|apply cI|apply cG)<;>intro h<;>try simp only [h]))
  all_goals
   simp only [hs3,hs4,jR,vX,cP,aO,aQ,aR,aM,aJ hk]
   repeat' (first|(with_reducible refine cO ?_ ?_; focus omega)|(with_reducible refine cO ?_ ?_; focus (simp; done)))
   all_goals simp [a6]
def aAU (o:Off) (x:Cs) (i:Nat) (a:Nat) (l:List Ob):St:=⟨[(1,.d (.int .i64 i)),(2,.d (.ptr o.s)),(4,.ptr 1 0 []),(6,.ptr a 0 []),(7,.d (.ptr x.s))],.dead :: .box zO :: (l ++ [.box (dQ o (.sl true 4 (dl Cs.s o.cs)) (.sl true 1 (dl D.str o.led)))])⟩
theorem aBm {s:St} (q:Nat) {x y:D} (hq:s.o[q]?=some (.box x)) (hy:x.unown=y):gH s ⟨cU q y s.e,s.o.set q .dead⟩:=hy ▸ gJ q hq
theorem aKK (o:Off) (i:Nat) (x:Cs) (ho:dN o=true) (hr:o.cs[i]?=some x):Fn prog 171 [o.s,.int .i64 i] (fun rs=>rs=[(kM o i x).w,.bool (eA o x && dN (kM o i x))]):=by
 have ho0:=eU ho
 have hp:=eF ho
 have hO:=jG o ho0
 have hno:o.w.noOwn=false:=by simp [Off.w,dQ,D.noOwn]
 have hwV:o.w.isV=true:=rfl
 have hwS:o.w.size=5:=rfl
 have h0:(0:Int)<=(i:Int):=by omega
 refine cW aRs [[1,1,1,0,1,0,1,1,1,1,0],[1,1,0],[1,0]] ?_
 dsimp only [aRs,aUi,rF,cS,cE,cR,c8]
 try simp only [wQ]
 repeat' (first|(simp only [aXW,aXX,aX2,hno,hwV,hwS,↓dL,cK,↓wA,↓wC,wB,cU,cT,bA,bB,bC,reduceIte,reduceCtorEq,aA,bD,dF])|((first|apply cH|apply cI|apply cG)<;>intro h<;>try simp only [h]))
 refine dB (gJ 0 rfl) ?_
 simp only [cU,cT,aX1,↓wA,↓wC,wB,cU,cT,bA,bB,bC,reduceIte,reduceCtorEq,aA,bD,dF]
 have hfa:∀ K:SV->Prop,dD 1 1 (.d (.ptr o.s)) K=K (.d (.ptr (.sl false 4 (dl Cs.s o.cs)))):=fun K=>by simp [Off.s,dQ,dD,D.pre,D.nth,D.size]
 simp only [hfa,hr,h0,cP,dC,aB,aF,cY,aXW,aXX,aX2,hno,hwV,hwS,↓dL,↓lQ,cK,aX3,aX6,↓wA,↓wC,wB,cU,cT,bA,bB,bC,reduceIte,reduceCtorEq,aA,bD,dF]
 refine aRz (fun s=>gH s (aAU o x i 2 [])\/gH s (aAU o x i 3 [.dead])\/gH s (aAU o x i 4 [.dead,.dead])) ?_ ?_
 ·repeat' (first
   |(with_reducible refine aE ?_ ?_)
   |(refine cJ hO (by simp [dA,dK]) rfl ?_)
   |(refine cL hO (by simp [dA,dK,aX1]) rfl ?_)
   |(simp only [hno,hwV,hwS,aXW,aXX,aX2,aYi,aX3,aX6,cK,↓wA,↓wC,wB,cU,cT,bA,bB,bC,reduceIte,reduceCtorEq,aA,bD,dF]))
  all_goals (first
   | exact .inl ((aBm 3 rfl (aX7 x)).trans (cV _ rfl ⟨⟨rfl,rfl⟩,⟨rfl,rfl⟩,⟨rfl,rfl⟩,⟨rfl,rfl⟩,⟨rfl,rfl⟩,trivial⟩))
   | exact .inl ((aBm 4 rfl (aX7 x)).trans (cV _ rfl ⟨⟨rfl,rfl⟩,⟨rfl,rfl⟩,⟨rfl,rfl⟩,⟨rfl,rfl⟩,⟨rfl,rfl⟩,trivial⟩))
   | exact .inr (.inl ((aBm 2 rfl (aX7 x)).trans (cV _ rfl ⟨⟨rfl,rfl⟩,⟨rfl,rfl⟩,⟨rfl,rfl⟩,⟨rfl,rfl⟩,⟨rfl,rfl⟩,trivial⟩)))
   | exact .inr (.inl ((aBm 4 rfl (aX7 x)).trans (cV _ rfl ⟨⟨rfl,rfl⟩,⟨rfl,rfl⟩,⟨rfl,rfl⟩,⟨rfl,rfl⟩,⟨rfl,rfl⟩,trivial⟩)))
   | exact .inr (.inr ((aBm 2 rfl (aX7 x)).trans (cV _ rfl ⟨⟨rfl,rfl⟩,⟨rfl,rfl⟩,⟨rfl,rfl⟩,⟨rfl,rfl⟩,⟨rfl,rfl⟩,trivial⟩)))
   | exact .inr (.inr ((aBm 3 rfl (aX7 x)).trans (cV _ rfl ⟨⟨rfl,rfl⟩,⟨rfl,rfl⟩,⟨rfl,rfl⟩,⟨rfl,rfl⟩,⟨rfl,rfl⟩,trivial⟩))))
 ·have hil:=cQ hr
  have hfx:∀ K:SV->Prop,dD 1 1 (.d (.ptr x.s)) K=K (.d (.ptr (.int .i64 x.a))):=fun K=>by simp [Cs.s,Cs.p,dD,D.pre,D.nth,D.size]
  have hf2:∀ K:SV->Prop,dD 2 2 (.d (.ptr o.s)) K=K (.d (.ptr (.int .i64 o.kept))):=fun K=>by simp [Off.s,dQ,dD,D.pre,D.nth,D.size]
  have hf3:∀ K:SV->Prop,dD 3 3 (.d (.ptr o.s)) K=K (.d (.ptr (.int .i64 o.moved))):=fun K=>by simp [Off.s,dQ,dD,D.pre,D.nth,D.size]
  have hf0:∀ K:SV->Prop,dD 0 0 (.d (.ptr o.s)) K=K (.d (.ptr (.int .i64 o.day))):=fun K=>by simp [Off.s,dQ,dD,D.pre,D.nth]
  have hx2:∀ K:SV->Prop,dD 2 2 (.d (.ptr x.s)) K=K (.d (.ptr (.int .i64 x.d))):=fun K=>by simp [Cs.s,Cs.p,dD,D.pre,D.nth,D.size]
  have hx0:∀ K:SV->Prop,dD 0 0 (.d (.ptr x.s)) K=K (.d (.ptr (.int .i64 x.i))):=fun K=>by simp [Cs.s,Cs.p,dD,D.pre,D.nth]
  have hx3:∀ K:SV->Prop,dD 3 3 (.d (.ptr x.s)) K=K (.d (.ptr (.sl false 1 (dl iD x.h)))):=fun K=>by simp [Cs.s,Cs.p,dD,D.pre,D.nth,D.size]
  have hs1:(dl Cs.s o.cs).sub 0 i=dl Cs.s (o.cs.take i):=by rw [oO]; rfl
  have hs2:(dl Cs.s o.cs).sub (i + 1) o.cs.length=dl Cs.s (o.cs.drop (i + 1)):=by rw [oO,aH]
  have htn:((i:Int) + 1).toNat=i + 1:=by omega
  have happ:(dl Cs.s (o.cs.take i)).app (dl Cs.s (o.cs.drop (i + 1)))=dl Cs.s (o.cs.eraseIdx i):=by rw [vX,List.eraseIdx_eq_take_drop_succ]
  have hl1:(o.cs.take i).length=i:=by simp; omega
  have hl2:(o.cs.drop (i + 1)).length=o.cs.length - (i + 1):=by simp
  have hok:(kM o i x).ok0:=by
   have hle:uZ (o.cs.eraseIdx i):=⟨by have:=aT o.cs i; omega,fun y hy=>ho0.1.2 y (aS hy)⟩
   unfold kM
   split
   ·exact ⟨hle,ho0.2⟩
   ·split
    ·exact ⟨hle,ho0.2⟩
    ·refine ⟨hle,by simp; omega,fun s hs=>?_⟩
     have hxc:=e8 (hp.2.2.2.2.2.2.2.2.2 x (aG hr))
     rcases aU.1 hs with hs|hs
     ·exact ho0.2.2 s hs
     ·rw [aY.1 hs]
      have h1:=eL x.i (by simp only [dX]; omega)
      have h2:=eL o.day (by simp only [dX]; omega)
      simp [lK]; omega
  have hG:=fS (kM o i x) hok
  cases k1:decide (x.a=1) with
  | true =>
   have ha:=k1
   have k2:=k1
   have hu:(D.st (.cons (.int .i64 o.day) (.cons (.sl true 4 (dl Cs.s (o.cs.eraseIdx i))) (.cons (.int .i64 (o.kept + 1)) (.cons (.int .i64 o.moved) (.cons (.sl true 1 (dl D.str o.led)) .nil)))))).unown=(kM o i x).s:=by
    unfold kM
    rw [if_pos (of_decide_eq_true k1)]
    simp [Off.s,dQ,D.unown,fK,gD]
   have hwE:(D.st (.cons (.int .i64 o.day) (.cons (.sl true 4 (dl Cs.s (o.cs.eraseIdx i))) (.cons (.int .i64 (o.kept + 1)) (.cons (.int .i64 o.moved) (.cons (.sl true 1 (dl D.str o.led)) .nil))))))=(kM o i x).w:=by
    unfold kM
    rw [if_pos (of_decide_eq_true k1)]
    rfl
   rintro s' (h|h|h)
   ·refine ⟨_,h,?_⟩
    simp only [aAU,aD,aC,↓wA,↓wC,wB,cU,cT,bA,bB,bC,reduceIte,reduceCtorEq,aA,bD,dF]
    refine dB (freeze 2 none [1] (x:=.sl true 4 (dl Cs.s o.cs)) rfl rfl rfl) ?_
    simp only [eD,dQ,D.unown,fK,↓wA,↓wC,wB,cU,cT,bA,bB,bC,reduceIte,reduceCtorEq,aA,bD,dF]
    cases hdd:decide (x.d<=o.day) with
    | true =>
     have hdb:eA o x=true:=by simp [eA,of_decide_eq_true hdd,of_decide_eq_true k1]
     repeat' (first|(simp only [cK,dP,cP,cY,cZ,hfx,hf0,hf2,hx2,aB,htn,hs1,hs2,happ,hl1,hl2,ha,hdd,↓wA,↓wC,wB,bA,bB,reduceIte,aA,bD,dF])|(refine dJ ?_)|(with_reducible refine aE ?_ ?_)|(with_reducible refine cO ?_ ?_; focus omega)|(with_reducible refine cM ?_ ?_; focus (simp only [dX]; omega))|(refine cJ hG (congrArg (fun d:D=>some [d]) hu) rfl ?_)|(refine cL hG (congrArg (fun d:D=>some [d]) hu) rfl ?_)|((first|apply cH|apply cI|apply cG)<;>intro h<;>try simp only [h]))
     all_goals (refine cO rfl ?_; rw [hwE,hdb,aK])
    | false =>
     have hdb:eA o x=false:=by simp [eA,of_decide_eq_false hdd]
     repeat' (first|(simp only [cK,dP,cP,cY,cZ,hfx,hf0,hf2,hx2,aB,htn,hs1,hs2,happ,hl1,hl2,ha,hdd,↓wA,↓wC,wB,bA,bB,reduceIte,aA,bD,dF])|(refine dJ ?_)|(with_reducible refine aE ?_ ?_)|(with_reducible refine cO ?_ ?_; focus omega)|(with_reducible refine cM ?_ ?_; focus (simp only [dX]; omega))|(refine cJ hG (congrArg (fun d:D=>some [d]) hu) rfl ?_)|(refine cL hG (congrArg (fun d:D=>some [d]) hu) rfl ?_)|((first|apply cH|apply cI|apply cG)<;>intro h<;>try simp only [h]))
     all_goals (refine cO rfl ?_; rw [hwE,hdb,aI])
   ·refine ⟨_,h,?_⟩
    simp only [aAU,aD,aC,↓wA,↓wC,wB,cU,cT,bA,bB,bC,reduceIte,reduceCtorEq,aA,bD,dF]
    refine dB (freeze 3 none [1] (x:=.sl true 4 (dl Cs.s o.cs)) rfl rfl rfl) ?_
    simp only [eD,dQ,D.unown,fK,↓wA,↓wC,wB,cU,cT,bA,bB,bC,reduceIte,reduceCtorEq,aA,bD,dF]
    cases hdd:decide (x.d<=o.day) with
    | true =>
     have hdb:eA o x=true:=by simp [eA,of_decide_eq_true hdd,of_decide_eq_true k1]
     repeat' (first|(simp only [cK,dP,cP,cY,cZ,hfx,hf0,hf2,hx2,aB,htn,hs1,hs2,happ,hl1,hl2,ha,hdd,↓wA,↓wC,wB,bA,bB,reduceIte,aA,bD,dF])|(refine dJ ?_)|(with_reducible refine aE ?_ ?_)|(with_reducible refine cO ?_ ?_; focus omega)|(with_reducible refine cM ?_ ?_; focus (simp only [dX]; omega))|(refine cJ hG (congrArg (fun d:D=>some [d]) hu) rfl ?_)|(refine cL hG (congrArg (fun d:D=>some [d]) hu) rfl ?_)|((first|apply cH|apply cI|apply cG)<;>intro h<;>try simp only [h]))
     all_goals (refine cO rfl ?_; rw [hwE,hdb,aK])
    | false =>
     have hdb:eA o x=false:=by simp [eA,of_decide_eq_false hdd]
     repeat' (first|(simp only [cK,dP,cP,cY,cZ,hfx,hf0,hf2,hx2,aB,htn,hs1,hs2,happ,hl1,hl2,ha,hdd,↓wA,↓wC,wB,bA,bB,reduceIte,aA,bD,dF])|(refine dJ ?_)|(with_reducible refine aE ?_ ?_)|(with_reducible refine cO ?_ ?_; focus omega)|(with_reducible refine cM ?_ ?_; focus (simp only [dX]; omega))|(refine cJ hG (congrArg (fun d:D=>some [d]) hu) rfl ?_)|(refine cL hG (congrArg (fun d:D=>some [d]) hu) rfl ?_)|((first|apply cH|apply cI|apply cG)<;>intro h<;>try simp only [h]))
     all_goals (refine cO rfl ?_; rw [hwE,hdb,aI])
   ·refine ⟨_,h,?_⟩
    simp only [aAU,aD,aC,↓wA,↓wC,wB,cU,cT,bA,bB,bC,reduceIte,reduceCtorEq,aA,bD,dF]
    refine dB (freeze 4 none [1] (x:=.sl true 4 (dl Cs.s o.cs)) rfl rfl rfl) ?_
    simp only [eD,dQ,D.unown,fK,↓wA,↓wC,wB,cU,cT,bA,bB,bC,reduceIte,reduceCtorEq,aA,bD,dF]
    cases hdd:decide (x.d<=o.day) with
    | true =>
     have hdb:eA o x=true:=by simp [eA,of_decide_eq_true hdd,of_decide_eq_true k1]
     repeat' (first|(simp only [cK,dP,cP,cY,cZ,hfx,hf0,hf2,hx2,aB,htn,hs1,hs2,happ,hl1,hl2,ha,hdd,↓wA,↓wC,wB,bA,bB,reduceIte,aA,bD,dF])|(refine dJ ?_)|(with_reducible refine aE ?_ ?_)|(with_reducible refine cO ?_ ?_; focus omega)|(with_reducible refine cM ?_ ?_; focus (simp only [dX]; omega))|(refine cJ hG (congrArg (fun d:D=>some [d]) hu) rfl ?_)|(refine cL hG (congrArg (fun d:D=>some [d]) hu) rfl ?_)|((first|apply cH|apply cI|apply cG)<;>intro h<;>try simp only [h]))
     all_goals (refine cO rfl ?_; rw [hwE,hdb,aK])
    | false =>
     have hdb:eA o x=false:=by simp [eA,of_decide_eq_false hdd]
     repeat' (first|(simp only [cK,dP,cP,cY,cZ,hfx,hf0,hf2,hx2,aB,htn,hs1,hs2,happ,hl1,hl2,ha,hdd,↓wA,↓wC,wB,bA,bB,reduceIte,aA,bD,dF])|(refine dJ ?_)|(with_reducible refine aE ?_ ?_)|(with_reducible refine cO ?_ ?_; focus omega)|(with_reducible refine cM ?_ ?_; focus (simp only [dX]; omega))|(refine cJ hG (congrArg (fun d:D=>some [d]) hu) rfl ?_)|(refine cL hG (congrArg (fun d:D=>some [d]) hu) rfl ?_)|((first|apply cH|apply cI|apply cG)<;>intro h<;>try simp only [h]))
     all_goals (refine cO rfl ?_; rw [hwE,hdb,aI])
  | false =>
   have k1':=of_decide_eq_false k1
   cases k2:decide (x.a=2) with
   | true =>
    have ha:=k2
    have hu:(D.st (.cons (.int .i64 o.day) (.cons (.sl true 4 (dl Cs.s (o.cs.eraseIdx i))) (.cons (.int .i64 o.kept) (.cons (.int .i64 (o.moved + 1)) (.cons (.sl true 1 (dl D.str o.led)) .nil)))))).unown=(kM o i x).s:=by
     unfold kM
     rw [if_neg k1',if_pos (of_decide_eq_true k2)]
     simp [Off.s,dQ,D.unown,fK,gD]
    have hwE:(D.st (.cons (.int .i64 o.day) (.cons (.sl true 4 (dl Cs.s (o.cs.eraseIdx i))) (.cons (.int .i64 o.kept) (.cons (.int .i64 (o.moved + 1)) (.cons (.sl true 1 (dl D.str o.led)) .nil))))))=(kM o i x).w:=by
     unfold kM
     rw [if_neg k1',if_pos (of_decide_eq_true k2)]
     rfl
    rintro s' (h|h|h)
    ·refine ⟨_,h,?_⟩
     simp only [aAU,aD,aC,↓wA,↓wC,wB,cU,cT,bA,bB,bC,reduceIte,reduceCtorEq,aA,bD,dF]
     refine dB (freeze 2 none [1] (x:=.sl true 4 (dl Cs.s o.cs)) rfl rfl rfl) ?_
     simp only [eD,dQ,D.unown,fK,↓wA,↓wC,wB,cU,cT,bA,bB,bC,reduceIte,reduceCtorEq,aA,bD,dF]
     cases hdd:decide (x.d<=o.day) with
     | true =>
      have hdb:eA o x=true:=by simp [eA,of_decide_eq_true hdd,of_decide_eq_true k2]
      repeat' (first|(simp only [cK,dP,cP,cY,cZ,hfx,hf0,hf3,hx2,aB,htn,hs1,hs2,happ,hl1,hl2,ha,hdd,k1,↓wA,↓wC,wB,bA,bB,reduceIte,aA,bD,dF])|(refine dJ ?_)|(with_reducible refine aE ?_ ?_)|(with_reducible refine cO ?_ ?_; focus omega)|(with_reducible refine cM ?_ ?_; focus (simp only [dX]; omega))|(refine cJ hG (congrArg (fun d:D=>some [d]) hu) rfl ?_)|(refine cL hG (congrArg (fun d:D=>some [d]) hu) rfl ?_)|((first|apply cH|apply cI|apply cG)<;>intro h<;>try simp only [h]))
      all_goals (refine cO rfl ?_; rw [hwE,hdb,aK])
     | false =>
      have hdb:eA o x=false:=by simp [eA,of_decide_eq_false hdd]
      repeat' (first|(simp only [cK,dP,cP,cY,cZ,hfx,hf0,hf3,hx2,aB,htn,hs1,hs2,happ,hl1,hl2,ha,hdd,k1,↓wA,↓wC,wB,bA,bB,reduceIte,aA,bD,dF])|(refine dJ ?_)|(with_reducible refine aE ?_ ?_)|(with_reducible refine cO ?_ ?_; focus omega)|(with_reducible refine cM ?_ ?_; focus (simp only [dX]; omega))|(refine cJ hG (congrArg (fun d:D=>some [d]) hu) rfl ?_)|(refine cL hG (congrArg (fun d:D=>some [d]) hu) rfl ?_)|((first|apply cH|apply cI|apply cG)<;>intro h<;>try simp only [h]))
      all_goals (refine cO rfl ?_; rw [hwE,hdb,aI])
    ·refine ⟨_,h,?_⟩
     simp only [aAU,aD,aC,↓wA,↓wC,wB,cU,cT,bA,bB,bC,reduceIte,reduceCtorEq,aA,bD,dF]
     refine dB (freeze 3 none [1] (x:=.sl true 4 (dl Cs.s o.cs)) rfl rfl rfl) ?_
     simp only [eD,dQ,D.unown,fK,↓wA,↓wC,wB,cU,cT,bA,bB,bC,reduceIte,reduceCtorEq,aA,bD,dF]
     cases hdd:decide (x.d<=o.day) with
     | true =>
      have hdb:eA o x=true:=by simp [eA,of_decide_eq_true hdd,of_decide_eq_true k2]
      repeat' (first|(simp only [cK,dP,cP,cY,cZ,hfx,hf0,hf3,hx2,aB,htn,hs1,hs2,happ,hl1,hl2,ha,hdd,k1,↓wA,↓wC,wB,bA,bB,reduceIte,aA,bD,dF])|(refine dJ ?_)|(with_reducible refine aE ?_ ?_)|(with_reducible refine cO ?_ ?_; focus omega)|(with_reducible refine cM ?_ ?_; focus (simp only [dX]; omega))|(refine cJ hG (congrArg (fun d:D=>some [d]) hu) rfl ?_)|(refine cL hG (congrArg (fun d:D=>some [d]) hu) rfl ?_)|((first|apply cH|apply cI|apply cG)<;>intro h<;>try simp only [h]))
      all_goals (refine cO rfl ?_; rw [hwE,hdb,aK])
     | false =>
      have hdb:eA o x=false:=by simp [eA,of_decide_eq_false hdd]
      repeat' (first|(simp only [cK,dP,cP,cY,cZ,hfx,hf0,hf3,hx2,aB,htn,hs1,hs2,happ,hl1,hl2,ha,hdd,k1,↓wA,↓wC,wB,bA,bB,reduceIte,aA,bD,dF])|(refine dJ ?_)|(with_reducible refine aE ?_ ?_)|(with_reducible refine cO ?_ ?_; focus omega)|(with_reducible refine cM ?_ ?_; focus (simp only [dX]; omega))|(refine cJ hG (congrArg (fun d:D=>some [d]) hu) rfl ?_)|(refine cL hG (congrArg (fun d:D=>some [d]) hu) rfl ?_)|((first|apply cH|apply cI|apply cG)<;>intro h<;>try simp only [h]))
      all_goals (refine cO rfl ?_; rw [hwE,hdb,aI])
    ·refine ⟨_,h,?_⟩
     simp only [aAU,aD,aC,↓wA,↓wC,wB,cU,cT,bA,bB,bC,reduceIte,reduceCtorEq,aA,bD,dF]
     refine dB (freeze 4 none [1] (x:=.sl true 4 (dl Cs.s o.cs)) rfl rfl rfl) ?_
     simp only [eD,dQ,D.unown,fK,↓wA,↓wC,wB,cU,cT,bA,bB,bC,reduceIte,reduceCtorEq,aA,bD,dF]
     cases hdd:decide (x.d<=o.day) with
     | true =>
      have hdb:eA o x=true:=by simp [eA,of_decide_eq_true hdd,of_decide_eq_true k2]
      repeat' (first|(simp only [cK,dP,cP,cY,cZ,hfx,hf0,hf3,hx2,aB,htn,hs1,hs2,happ,hl1,hl2,ha,hdd,k1,↓wA,↓wC,wB,bA,bB,reduceIte,aA,bD,dF])|(refine dJ ?_)|(with_reducible refine aE ?_ ?_)|(with_reducible refine cO ?_ ?_; focus omega)|(with_reducible refine cM ?_ ?_; focus (simp only [dX]; omega))|(refine cJ hG (congrArg (fun d:D=>some [d]) hu) rfl ?_)|(refine cL hG (congrArg (fun d:D=>some [d]) hu) rfl ?_)|((first|apply cH|apply cI|apply cG)<;>intro h<;>try simp only [h]))
      all_goals (refine cO rfl ?_; rw [hwE,hdb,aK])
     | false =>
      have hdb:eA o x=false:=by simp [eA,of_decide_eq_false hdd]
      repeat' (first|(simp only [cK,dP,cP,cY,cZ,hfx,hf0,hf3,hx2,aB,htn,hs1,hs2,happ,hl1,hl2,ha,hdd,k1,↓wA,↓wC,wB,bA,bB,reduceIte,aA,bD,dF])|(refine dJ ?_)|(with_reducible refine aE ?_ ?_)|(with_reducible refine cO ?_ ?_; focus omega)|(with_reducible refine cM ?_ ?_; focus (simp only [dX]; omega))|(refine cJ hG (congrArg (fun d:D=>some [d]) hu) rfl ?_)|(refine cL hG (congrArg (fun d:D=>some [d]) hu) rfl ?_)|((first|apply cH|apply cI|apply cG)<;>intro h<;>try simp only [h]))
      all_goals (refine cO rfl ?_; rw [hwE,hdb,aI])
   | false =>
    have k2':=of_decide_eq_false k2
    have hxc:=e8 (hp.2.2.2.2.2.2.2.2.2 x (aG hr))
    have hN1:=fI x.i (by omega) (by simp only [dX]; omega)
    have hN2:=fI o.day (by omega) (by simp only [dX]; omega)
    have hI1:=eL x.i (by simp only [dX]; omega)
    have hI2:=eL o.day (by simp only [dX]; omega)
    have hE:114 :: (Lib.itoa x.i ++ 32 :: 100 :: Lib.itoa o.day)=lK x.i o.day:=rfl
    have hu:(D.st (.cons (.int .i64 o.day) (.cons (.sl true 4 (dl Cs.s (o.cs.eraseIdx i))) (.cons (.int .i64 o.kept) (.cons (.int .i64 o.moved) (.cons (.sl true 1 (dl D.str (o.led ++ [lK x.i o.day]))) .nil)))))).unown=(kM o i x).s:=by
     unfold kM
     rw [if_neg k1',if_neg k2']
     simp [Off.s,dQ,D.unown,fK,gD]
    have hwE:(D.st (.cons (.int .i64 o.day) (.cons (.sl true 4 (dl Cs.s (o.cs.eraseIdx i))) (.cons (.int .i64 o.kept) (.cons (.int .i64 o.moved) (.cons (.sl true 1 (dl D.str (o.led ++ [lK x.i o.day]))) .nil))))))=(kM o i x).w:=by
     unfold kM
     rw [if_neg k1',if_neg k2']
     rfl
    rintro s' (h|h|h)
    ·refine ⟨_,h,?_⟩
     simp only [aAU,aD,aC,↓wA,↓wC,wB,cU,cT,bA,bB,bC,reduceIte,reduceCtorEq,aA,bD,dF]
     refine dB (freeze 2 none [1] (x:=.sl true 4 (dl Cs.s o.cs)) rfl rfl rfl) ?_
     simp only [eD,dQ,D.unown,fK,↓wA,↓wC,wB,cU,cT,bA,bB,bC,reduceIte,reduceCtorEq,aA,bD,dF]
     repeat' (first|(simp only [cK,dP,cP,cY,cZ,hfx,hf0,hf2,hf3,hx0,hx2,hx3,aB,htn,hs1,hs2,happ,hl1,hl2,k1,k2,↓wA,↓wC,wB,cU,cT,bA,bB,bC,reduceIte,reduceCtorEq,aA,bD,dF])|(refine dJ ?_)|(with_reducible refine cO ?_ ?_; focus omega)|(with_reducible refine cM ?_ ?_; focus (simp only [dX]; omega))|((first|apply cH|apply cI|apply cG)<;>intro h<;>try simp only [h]))
     refine eY _ (fL 2 none [4] (es:=1) (xs:=dl D.str o.led) rfl rfl) fun v2=>?_
     simp only [eD,↓wA,↓wC,wB,cU,cT,bA,bB,bC,reduceIte,reduceCtorEq,aA,bD,dF]
     have happ2:(dl D.str o.led).app (D.cons (.str (lK x.i o.day)) .nil)=dl D.str (o.led ++ [lK x.i o.day]):=hZ (f:=D.str) o.led _
     cases hdd:decide (x.d<=o.day) with
     | true =>
      have hdb:eA o x=decide (x.h.length=0):=by simp [eA,of_decide_eq_true hdd,k1',k2']
      cases hh:decide ((x.h.length:Int)=0) with
      | true =>
       have hdb2:eA o x=true:=by rw [hdb]; have:=of_decide_eq_true hh; exact decide_eq_true (by omega)
       repeat' (first|(simp only [cK,dP,cP,cY,cZ,dE,hf0,hx0,hx2,hx3,hdd,hh,hE,happ2,↓wA,↓wC,wB,bA,bB,reduceIte,aA,bD,dF])|(refine cJ (hN1) rfl rfl ?_)|(refine cL (hN1) rfl rfl ?_)|(refine cJ (hN2) rfl rfl ?_)|(refine cL (hN2) rfl rfl ?_)|(refine dJ ?_)|(with_reducible refine aE ?_ ?_)|(with_reducible refine cO ?_ ?_; focus omega)|(with_reducible refine cO ?_ ?_; focus (simp; done))|(with_reducible refine cM ?_ ?_; focus (simp only [dX]; omega))|(refine cJ hG (congrArg (fun d:D=>some [d]) hu) rfl ?_)|(refine cL hG (congrArg (fun d:D=>some [d]) hu) rfl ?_)|((first|apply cH|apply cI|apply cG)<;>intro h<;>try simp only [h]))
       all_goals (refine cO rfl ?_; rw [hwE,hdb2,aK])
      | false =>
       have hdb2:eA o x=false:=by rw [hdb]; have:=of_decide_eq_false hh; exact decide_eq_false (by omega)
       repeat' (first|(simp only [cK,dP,cP,cY,cZ,dE,hf0,hx0,hx2,hx3,hdd,hh,hE,happ2,↓wA,↓wC,wB,bA,bB,reduceIte,aA,bD,dF])|(refine cJ (hN1) rfl rfl ?_)|(refine cL (hN1) rfl rfl ?_)|(refine cJ (hN2) rfl rfl ?_)|(refine cL (hN2) rfl rfl ?_)|(refine dJ ?_)|(with_reducible refine aE ?_ ?_)|(with_reducible refine cO ?_ ?_; focus omega)|(with_reducible refine cO ?_ ?_; focus (simp; done))|(with_reducible refine cM ?_ ?_; focus (simp only [dX]; omega))|(refine cJ hG (congrArg (fun d:D=>some [d]) hu) rfl ?_)|(refine cL hG (congrArg (fun d:D=>some [d]) hu) rfl ?_)|((first|apply cH|apply cI|apply cG)<;>intro h<;>try simp only [h]))
       all_goals (refine cO rfl ?_; rw [hwE,hdb2,aI])
     | false =>
      have hdb2:eA o x=false:=by simp [eA,of_decide_eq_false hdd]
      repeat' (first|(simp only [cK,dP,cP,cY,cZ,hf0,hx0,hx2,hdd,hE,happ2,↓wA,↓wC,wB,bA,bB,reduceIte,aA,bD,dF])|(refine cJ (hN1) rfl rfl ?_)|(refine cL (hN1) rfl rfl ?_)|(refine cJ (hN2) rfl rfl ?_)|(refine cL (hN2) rfl rfl ?_)|(refine dJ ?_)|(with_reducible refine aE ?_ ?_)|(with_reducible refine cO ?_ ?_; focus omega)|(with_reducible refine cO ?_ ?_; focus (simp; done))|(with_reducible refine cM ?_ ?_; focus (simp only [dX]; omega))|(refine cJ hG (congrArg (fun d:D=>some [d]) hu) rfl ?_)|(refine cL hG (congrArg (fun d:D=>some [d]) hu) rfl ?_)|((first|apply cH|apply cI|apply cG)<;>intro h<;>try simp only [h]))
      all_goals (refine cO rfl ?_; rw [hwE,hdb2,aI])
    ·refine ⟨_,h,?_⟩
     simp only [aAU,aD,aC,↓wA,↓wC,wB,cU,cT,bA,bB,bC,reduceIte,reduceCtorEq,aA,bD,dF]
     refine dB (freeze 3 none [1] (x:=.sl true 4 (dl Cs.s o.cs)) rfl rfl rfl) ?_
     simp only [eD,dQ,D.unown,fK,↓wA,↓wC,wB,cU,cT,bA,bB,bC,reduceIte,reduceCtorEq,aA,bD,dF]
     repeat' (first|(simp only [cK,dP,cP,cY,cZ,hfx,hf0,hf2,hf3,hx0,hx2,hx3,aB,htn,hs1,hs2,happ,hl1,hl2,k1,k2,↓wA,↓wC,wB,cU,cT,bA,bB,bC,reduceIte,reduceCtorEq,aA,bD,dF])|(refine dJ ?_)|(with_reducible refine cO ?_ ?_; focus omega)|(with_reducible refine cM ?_ ?_; focus (simp only [dX]; omega))|((first|apply cH|apply cI|apply cG)<;>intro h<;>try simp only [h]))
     refine eY _ (fL 3 none [4] (es:=1) (xs:=dl D.str o.led) rfl rfl) fun v2=>?_
     simp only [eD,↓wA,↓wC,wB,cU,cT,bA,bB,bC,reduceIte,reduceCtorEq,aA,bD,dF]
     have happ2:(dl D.str o.led).app (D.cons (.str (lK x.i o.day)) .nil)=dl D.str (o.led ++ [lK x.i o.day]):=hZ (f:=D.str) o.led _
     cases hdd:decide (x.d<=o.day) with
     | true =>
      have hdb:eA o x=decide (x.h.length=0):=by simp [eA,of_decide_eq_true hdd,k1',k2']
      cases hh:decide ((x.h.length:Int)=0) with
      | true =>
       have hdb2:eA o x=true:=by rw [hdb]; have:=of_decide_eq_true hh; exact decide_eq_true (by omega)
       repeat' (first|(simp only [cK,dP,cP,cY,cZ,dE,hf0,hx0,hx2,hx3,hdd,hh,hE,happ2,↓wA,↓wC,wB,bA,bB,reduceIte,aA,bD,dF])|(refine cJ (hN1) rfl rfl ?_)|(refine cL (hN1) rfl rfl ?_)|(refine cJ (hN2) rfl rfl ?_)|(refine cL (hN2) rfl rfl ?_)|(refine dJ ?_)|(with_reducible refine aE ?_ ?_)|(with_reducible refine cO ?_ ?_; focus omega)|(with_reducible refine cO ?_ ?_; focus (simp; done))|(with_reducible refine cM ?_ ?_; focus (simp only [dX]; omega))|(refine cJ hG (congrArg (fun d:D=>some [d]) hu) rfl ?_)|(refine cL hG (congrArg (fun d:D=>some [d]) hu) rfl ?_)|((first|apply cH|apply cI|apply cG)<;>intro h<;>try simp only [h]))
       all_goals (refine cO rfl ?_; rw [hwE,hdb2,aK])
      | false =>
       have hdb2:eA o x=false:=by rw [hdb]; have:=of_decide_eq_false hh; exact decide_eq_false (by omega)
       repeat' (first|(simp only [cK,dP,cP,cY,cZ,dE,hf0,hx0,hx2,hx3,hdd,hh,hE,happ2,↓wA,↓wC,wB,bA,bB,reduceIte,aA,bD,dF])|(refine cJ (hN1) rfl rfl ?_)|(refine cL (hN1) rfl rfl ?_)|(refine cJ (hN2) rfl rfl ?_)|(refine cL (hN2) rfl rfl ?_)|(refine dJ ?_)|(with_reducible refine aE ?_ ?_)|(with_reducible refine cO ?_ ?_; focus omega)|(with_reducible refine cO ?_ ?_; focus (simp; done))|(with_reducible refine cM ?_ ?_; focus (simp only [dX]; omega))|(refine cJ hG (congrArg (fun d:D=>some [d]) hu) rfl ?_)|(refine cL hG (congrArg (fun d:D=>some [d]) hu) rfl ?_)|((first|apply cH|apply cI|apply cG)<;>intro h<;>try simp only [h]))
       all_goals (refine cO rfl ?_; rw [hwE,hdb2,aI])
     | false =>
      have hdb2:eA o x=false:=by simp [eA,of_decide_eq_false hdd]
      repeat' (first|(simp only [cK,dP,cP,cY,cZ,hf0,hx0,hx2,hdd,hE,happ2,↓wA,↓wC,wB,bA,bB,reduceIte,aA,bD,dF])|(refine cJ (hN1) rfl rfl ?_)|(refine cL (hN1) rfl rfl ?_)|(refine cJ (hN2) rfl rfl ?_)|(refine cL (hN2) rfl rfl ?_)|(refine dJ ?_)|(with_reducible refine aE ?_ ?_)|(with_reducible refine cO ?_ ?_; focus omega)|(with_reducible refine cO ?_ ?_; focus (simp; done))|(with_reducible refine cM ?_ ?_; focus (simp only [dX]; omega))|(refine cJ hG (congrArg (fun d:D=>some [d]) hu) rfl ?_)|(refine cL hG (congrArg (fun d:D=>some [d]) hu) rfl ?_)|((first|apply cH|apply cI|apply cG)<;>intro h<;>try simp only [h]))
      all_goals (refine cO rfl ?_; rw [hwE,hdb2,aI])
    ·refine ⟨_,h,?_⟩
     simp only [aAU,aD,aC,↓wA,↓wC,wB,cU,cT,bA,bB,bC,reduceIte,reduceCtorEq,aA,bD,dF]
     refine dB (freeze 4 none [1] (x:=.sl true 4 (dl Cs.s o.cs)) rfl rfl rfl) ?_
     simp only [eD,dQ,D.unown,fK,↓wA,↓wC,wB,cU,cT,bA,bB,bC,reduceIte,reduceCtorEq,aA,bD,dF]
     repeat' (first|(simp only [cK,dP,cP,cY,cZ,hfx,hf0,hf2,hf3,hx0,hx2,hx3,aB,htn,hs1,hs2,happ,hl1,hl2,k1,k2,↓wA,↓wC,wB,cU,cT,bA,bB,bC,reduceIte,reduceCtorEq,aA,bD,dF])|(refine dJ ?_)|(with_reducible refine cO ?_ ?_; focus omega)|(with_reducible refine cM ?_ ?_; focus (simp only [dX]; omega))|((first|apply cH|apply cI|apply cG)<;>intro h<;>try simp only [h]))
     refine eY _ (fL 4 none [4] (es:=1) (xs:=dl D.str o.led) rfl rfl) fun v2=>?_
     simp only [eD,↓wA,↓wC,wB,cU,cT,bA,bB,bC,reduceIte,reduceCtorEq,aA,bD,dF]
     have happ2:(dl D.str o.led).app (D.cons (.str (lK x.i o.day)) .nil)=dl D.str (o.led ++ [lK x.i o.day]):=hZ (f:=D.str) o.led _
     cases hdd:decide (x.d<=o.day) with
     | true =>
      have hdb:eA o x=decide (x.h.length=0):=by simp [eA,of_decide_eq_true hdd,k1',k2']
      cases hh:decide ((x.h.length:Int)=0) with
      | true =>
       have hdb2:eA o x=true:=by rw [hdb]; have:=of_decide_eq_true hh; exact decide_eq_true (by omega)
       repeat' (first|(simp only [cK,dP,cP,cY,cZ,dE,hf0,hx0,hx2,hx3,hdd,hh,hE,happ2,↓wA,↓wC,wB,bA,bB,reduceIte,aA,bD,dF])|(refine cJ (hN1) rfl rfl ?_)|(refine cL (hN1) rfl rfl ?_)|(refine cJ (hN2) rfl rfl ?_)|(refine cL (hN2) rfl rfl ?_)|(refine dJ ?_)|(with_reducible refine aE ?_ ?_)|(with_reducible refine cO ?_ ?_; focus omega)|(with_reducible refine cO ?_ ?_; focus (simp; done))|(with_reducible refine cM ?_ ?_; focus (simp only [dX]; omega))|(refine cJ hG (congrArg (fun d:D=>some [d]) hu) rfl ?_)|(refine cL hG (congrArg (fun d:D=>some [d]) hu) rfl ?_)|((first|apply cH|apply cI|apply cG)<;>intro h<;>try simp only [h]))
       all_goals (refine cO rfl ?_; rw [hwE,hdb2,aK])
      | false =>
       have hdb2:eA o x=false:=by rw [hdb]; have:=of_decide_eq_false hh; exact decide_eq_false (by omega)
       repeat' (first|(simp only [cK,dP,cP,cY,cZ,dE,hf0,hx0,hx2,hx3,hdd,hh,hE,happ2,↓wA,↓wC,wB,bA,bB,reduceIte,aA,bD,dF])|(refine cJ (hN1) rfl rfl ?_)|(refine cL (hN1) rfl rfl ?_)|(refine cJ (hN2) rfl rfl ?_)|(refine cL (hN2) rfl rfl ?_)|(refine dJ ?_)|(with_reducible refine aE ?_ ?_)|(with_reducible refine cO ?_ ?_; focus omega)|(with_reducible refine cO ?_ ?_; focus (simp; done))|(with_reducible refine cM ?_ ?_; focus (simp only [dX]; omega))|(refine cJ hG (congrArg (fun d:D=>some [d]) hu) rfl ?_)|(refine cL hG (congrArg (fun d:D=>some [d]) hu) rfl ?_)|((first|apply cH|apply cI|apply cG)<;>intro h<;>try simp only [h]))
       all_goals (refine cO rfl ?_; rw [hwE,hdb2,aI])
     | false =>
      have hdb2:eA o x=false:=by simp [eA,of_decide_eq_false hdd]
      repeat' (first|(simp only [cK,dP,cP,cY,cZ,hf0,hx0,hx2,hdd,hE,happ2,↓wA,↓wC,wB,bA,bB,reduceIte,aA,bD,dF])|(refine cJ (hN1) rfl rfl ?_)|(refine cL (hN1) rfl rfl ?_)|(refine cJ (hN2) rfl rfl ?_)|(refine cL (hN2) rfl rfl ?_)|(refine dJ ?_)|(with_reducible refine aE ?_ ?_)|(with_reducible refine cO ?_ ?_; focus omega)|(with_reducible refine cO ?_ ?_; focus (simp; done))|(with_reducible refine cM ?_ ?_; focus (simp only [dX]; omega))|(refine cJ hG (congrArg (fun d:D=>some [d]) hu) rfl ?_)|(refine cL hG (congrArg (fun d:D=>some [d]) hu) rfl ?_)|((first|apply cH|apply cI|apply cG)<;>intro h<;>try simp only [h]))
      all_goals (refine cO rfl ?_; rw [hwE,hdb2,aI])
end Go.Pe.Tryz
