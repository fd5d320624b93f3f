/- Greatest common divisors and shares in lowest terms, walked; The place of an appeal; how many days it has left, walked; Marks on lists of appeals, walked; Marks on appeals, read again; copies of one's own, walked; Sorting of a few numbers, walked; Steps of an office, as plain lists: the program's road and the reference's agree; Steps of an office: copies, walked; Steps of an office: a hold is released; walked; Steps of an office: a case is dealt with; walked; Steps of an office: a step with a case; walked; Steps of an office: a step; walked; Steps of an office: the program's StepOffice; walked; Runs of steps of an office: the program's RunOffice; walked; Steps of an office: the reference's own copy; walked; Steps of an office: the reference's l25Step, l25Enter; walked; Steps of an office: the reference's l25Release; walked; A party heard, walked; A party heard as the reference has it, walked -/
import Derived.Test.YtjmobminbckhjaaGreatDoorPeD
import Derived.Test.YtjmobminbckhjaaGreatDoorMc1
import Derived.Test.YtjmobminbckhjaaGreatDoorMc2
import Derived.Test.YtjmobminbckhjaaGreatDoorMc3
import Derived.Test.YtjmobminbckhjaaGreatDoorMc4
import Derived.Test.YtjmobminbckhjaaGreatDoorMc5
import Derived.Test.YtjmobminbckhjaaGreatDoorMc6
import Derived.Test.YtjmobminbckhjaaGreatDoorMc7
import Derived.Test.YtjmobminbckhjaaGreatDoorMc8
import Derived.Test.YtjmobminbckhjaaGreatDoorW3
import Derived.Test.YtjmobminbckhjaaGreatDoorW2
set_option maxRecDepth 100000
set_option maxHeartbeats 4000000
set_option linter.all false
open And renaming intro->aV
open Bool renaming and_eq_true->aE, or_false->a6, or_true->bA
open Int renaming toNat_natCast->aB
open List renaming mem_of_getElem?->aD, cons_append->aF, nil_append->aH, take_length->aI, length_take->aK, set_append_right->aM, length_eq_zero_iff->aN, length_append->aO, length_singleton->aP, length_map->aR, length_drop->aT, contains_iff_mem->aU, append_assoc->aW, map_map->aX, mem_map->aY, length_filter_le->aZ, filter_eq_self->a7, set_cons_zero->a8, all_eq_true->bC, append_nil->bD, nodup_cons->bE, map_append->bF, mem_append->bG, take_zero->bH, map_take->bJ, map_drop->bK, map_nil->bL
open Nat renaming reduceBEq->aA, min_eq_left->aG, sub_self->aS, le_refl->bM, reduceEqDiff->bP, reduceAdd->bQ, reduceSub->bR, reduceLT->bT
open Option renaming map_some->aC, getD_some->aJ, bind_some->aL, filter->aQ, isSome_some->bB
namespace Go.Pe.Tryz
open Go.Proofs.Tryz
theorem kT {n a b:Int}:dC n a b=true↔a<=n/\n<=b:=by
 simp [dC]
def App.p (x:App) (da dh:D):D:=.st (.cons (.int .i64 x.i) (.cons (.int .i64 x.q) (.cons (.int .i64 x.d) (.cons da (.cons dh (.cons (.int .i64 x.s) .nil))))))
def App.o (x:App):D:=x.p (.sl true 1 (dl iD x.a)) (.sl true 1 (dl iD x.h))
theorem aLi {α:Type} {xs:List α} {i:Nat} {r:α} (hr:xs[i]?=some r):xs.take (i + 1)=xs.take i ++ [r]:=by
 have hi:=cV hr
 rw [List.take_succ_eq_append_getElem hi]
 rw [List.getElem?_eq_getElem hi] at hr
 injection hr with hr
 rw [hr]
theorem App.o_unown (x:App):x.o.unown=x.d':=by simp [App.o,App.p,App.d',D.unown,dM]
theorem App.o_own (x:App):x.o.allOwn=true:=by simp [App.o,App.p,D.allOwn,mT vL]
theorem App.o_noOwn (x:App):x.o.noOwn=false:=by simp [App.o,App.p,D.noOwn]
theorem App.o_isV (x:App):x.o.isV=true:=rfl
theorem App.o_size (x:App):x.o.size=6:=rfl
theorem aKE (v:List Int) (hlen:v.length<=1048576):Fn prog 102 [.sl false 1 (dl iD v)] (fun rs=>rs=[.sl true 1 (dl iD v)]):=by
 refine cW aRI [] ?_
 dsimp only [aRI,cT,c7]
 simp only [↓wA,↓wC,wB,cL,cK,bP,bQ,bR,reduceIte,reduceCtorEq,aA,bT]
 refine aIC (fun h=>?_) ?_
 ·rw [cO] at h
  have e:v=[]:=aN.1 h
  subst e
  simp only [↓wA,↓wC,wB,cL,cK,bP,bQ,bR,reduceIte,reduceCtorEq,aA,bT]
  refine lM 1 ?_
  rfl
 ·simp only [cO,↓wA,↓wC,wB,cL,cK,bP,bQ,bR,reduceIte,reduceCtorEq,aA,bT]
  refine cQ ⟨by omega,by omega⟩ ?_
  simp only [↓wA,↓wC,wB,cL,cK,bP,bQ,bR,reduceIte,reduceCtorEq,aA,bT]
theorem aHh (a:Int):Fn prog 258 [.int .i64 a] (fun rs=>rs=[.bool false]):=by
 refine cW aQQ [] ?_
 dsimp only [aQQ,cT,c7]
 simp only [↓wA,↓wC,wB,cL,cK,bP,bQ,bR,reduceIte,reduceCtorEq,aA,bT]
theorem p8 (a b:Int):Fn prog 238 [.int .i64 a,.int .i64 b] (fun rs=>rs=[.bool (decide (a < b))]):=by
 have h1:=aHh a
 have h2:=aHh b
 refine cW aQC [] ?_
 dsimp only [aQC,cT,c7]
 repeat' (first|(simp only [↓wA,↓wC,wB,cL,cK,bP,bQ,bR,reduceIte,reduceCtorEq,aA,bT])|(refine cI (h1) rfl rfl ?_)|(refine cM (h1) rfl rfl ?_)|(refine cI (h2) rfl rfl ?_)|(refine cM (h2) rfl rfl ?_)|((first|apply cG|apply cH|apply cF)<;>intro h<;>try simp only [h]))
def aEN (n:Nat):Int:=[0,1,2,2,3,3,3,3].getD n 0
theorem aNx (n:Nat) (h:n<=7):Fn prog 242 [.int .u64 n] (fun rs=>rs=[.int .i64 (aEN n)]):=by
 have h1:decide ((4294967296:Int)<=(n:Int))=false:=decide_eq_false (by omega)
 have h2:decide ((65536:Int)<=(n:Int))=false:=decide_eq_false (by omega)
 have h3:decide ((256:Int)<=(n:Int))=false:=decide_eq_false (by omega)
 have h8:n=0\/n=1\/n=2\/n=3\/n=4\/n=5\/n=6\/n=7:=by omega
 refine cW aRd [] ?_
 dsimp only [aRd,cT,c7]
 repeat' (first|(simp only [cJ,h1,h2,h3,↓wA,↓wC,wB,cL,cK,bP,bQ,bR,reduceIte,reduceCtorEq,aA,bT])|(with_reducible refine cP ?_ ?_; focus (simp only [dW]; omega))|((first|apply cG|apply cH|apply cF)<;>intro h<;>try simp only [h]))
 rcases h8 with rfl|rfl|rfl|rfl|rfl|rfl|rfl|rfl
 all_goals
  refine cQ (by decide) ?_
  refine ⟨_,rfl,?_⟩
  refine cP (by simp only [dW]; decide) ?_
  simp only [↓wA,↓wC,wB,cL,cK,bP,bQ,bR,reduceIte,reduceCtorEq,aA,bT]
  refine cP (by simp only [dW]; decide) ?_
  simp only [↓wA,↓wC,wB,cL,cK,bP,bQ,bR,reduceIte,reduceCtorEq,aA,bT]
  rfl
def pos (p:Int):List Int->Nat
 | []=>0
 | a :: t=>if a < p then pos p t + 1 else 0
def kQ (p:Int) (v:List Int):List Int:=v.take (pos p v) ++ p :: v.drop (pos p v)
theorem aFd {p:Int}:∀ (v:List Int) (j:Nat),j<=v.length->(∀ m x,m < j->v[m]?=some x->x < p)->(∀ x,v[j]?=some x->¬ x < p)->pos p v=j
 | [],j,h,_,_=>by
  simp at h
  subst h
  rfl
 | a :: t,0,_,_,h3=>by
  rw [pos,if_neg (h3 a rfl)]
 | a :: t,j + 1,h,h2,h3=>by
  rw [pos,if_pos (h2 0 a (by omega) rfl),aFd t j (by simpa using h) (fun m x hm hx=>h2 (m + 1) x (by omega) (by simpa using hx)) (fun x hx=>h3 x (by simpa using hx))]
def aDE (v:List Int):Prop:=∀ j a b,v[j]?=some a->v[j + 1]?=some b->a < b
theorem aBK {v:List Int} (h:aDE v):∀ (k m:Nat) (a b:Int),m < k->v[m]?=some a->v[k]?=some b->a < b
 | 0,m,a,b,hm,_,_=>by omega
 | k + 1,m,a,b,hm,ha,hb=>by
  by_cases e:m=k
  ·subst e; exact h m a b ha hb
  ·obtain ⟨c,hc⟩:=dQ (show k < v.length by have:=cV hb; omega)
   have h1:=aBK h k m a c (by omega) ha hc
   have h2:=h k c b hc hb
   omega
def mv (p:Int) (v:List Int) (j:Nat):List Int:=v.take j ++ p :: v.drop j
theorem aS0 {p:Int} {v:List Int} {j:Nat} (h:j<=v.length):(mv p v j).length=v.length + 1:=by simp [mv]; omega
theorem aVV {p:Int} {v:List Int}:mv p v v.length=v ++ [p]:=by simp [mv]
theorem aU7 {p:Int} {v:List Int} {j:Nat} (h:j<=v.length):(mv p v j)[j]?=some p:=by
 rw [mv,List.getElem?_append_right (by simp; omega),aK,aG h,aS]; rfl
theorem aVm {p x:Int} {v:List Int} {k:Nat} (h:v[k]?=some x):(mv p v (k + 1))[k]?=some x:=by
 have hk:=cV h
 rw [mv,List.getElem?_append_left (by simp; omega),List.getElem?_take_of_lt (by omega)]
 exact h
theorem aPT {p x:Int} {v:List Int} {k:Nat} (h:v[k]?=some x):((mv p v (k + 1)).set (k + 1) x).set k p=mv p v k:=by
 have hk:=cV h
 rw [mv,aLi h,mv,aJ9 h,aW]
 have hl:(v.take k).length=k:=by simp; omega
 rw [aM _ _ (by omega),hl,show k + 1 - k=1 by omega,aM _ _ (by omega),hl,aS]
 rfl
theorem aI3 (p:Int) (v:List Int) (hr:aDE v) (hp:p ∉ v) (hlen:v.length<=6):y7 prog 232 false (.sl true 1 (dl iD (v ++ [p]))) [.int .i64 0,.int .i64 (v.length + 1)] (fun x' rs=>x'=.sl true 1 (dl iD (kQ p v))/\rs=[]):=by
 have hput:∀ j,j<=v.length->(∀ m x,m < j->v[m]?=some x->x < p)->(∀ x,v[j]?=some x->¬ x < p)->mv p v j=kQ p v:=fun j h1 h2 h3=>by rw [kQ,aFd v j h1 h2 h3,mv]
 have hnp:∀ {m x:_},v[m]?=some x->x≠p:=fun {m x} h e=>hp (e ▸ aD h)
 refine jY aRA [] ?_
 dsimp only [aRA,cT,c7]
 simp only [cO,↓wA,↓wC,wB,cL,cK,bP,bQ,bR,reduceIte,reduceCtorEq,aA,bT]
 refine cP (by simp only [dW]; omega) ?_
 refine d5 (fun i:Nat=>⟨[(0,.own 0),(1,.d (.int .i64 0)),(2,.d (.int .i64 (v.length + 1))),(6,.d (.int .i64 i))],[.val (.sl true 1 (dl iD (if i<=v.length then v ++ [p] else kQ p v)))]⟩) (fun i=>1<=i/\i<=v.length + 1) (fun i=>v.length + 1 - i) 1 ?_ ⟨by omega,by omega⟩ ?_
 ·have e:(if 1<=v.length then v ++ [p] else kQ p v)=v ++ [p]:=by
   split
   ·rfl
   ·rename_i h
    have h0:v.length=0:=by omega
    have e:v=[]:=aN.1 h0
    subst e
    rfl
  rw [e]
  exact (cU _ rfl ⟨⟨rfl,rfl⟩,⟨rfl,rfl⟩,⟨rfl,rfl⟩,⟨rfl,rfl⟩,trivial⟩)
 rintro i ⟨hi1,hi2⟩
 by_cases hin:i=v.length + 1
 ·subst hin
  have hd:decide (((v.length + 1:Nat):Int) < (v.length:Int) + 1)=false:=decide_eq_false (by omega)
  rw [if_neg (by omega)]
  simp only [hd,↓wA,↓wC,wB,cL,cK,bP,bQ,bR,reduceIte,reduceCtorEq,aA,bT]
 ·have hd:decide ((i:Int) < (v.length:Int) + 1)=true:=decide_eq_true (by omega)
  rw [if_pos (by omega)]
  by_cases hlt:i < v.length
  ·obtain ⟨k,rfl⟩:∃ k,i=k + 1:=⟨i - 1,by omega⟩
   obtain ⟨y,hy⟩:=dQ hlt
   obtain ⟨x,hx⟩:=dQ (show k < v.length by omega)
   have hxy:=hr k x y hx hy
   have h1:decide (0 < ((k + 1:Nat):Int))=true:=decide_eq_true (by omega)
   have h2:decide (y < x)=false:=decide_eq_false (by omega)
   have hn1:(((k + 1:Nat):Int) - 1).toNat=k:=by omega
   have h0:(0:Int)<=((k + 1:Nat):Int):=by omega
   have h0':(0:Int)<=((k + 1:Nat):Int) - 1:=by omega
   have hg1:(v ++ [p])[k + 1]?=some y:=by rw [List.getElem?_append_left hlt]; exact hy
   have hg2:(v ++ [p])[k]?=some x:=by rw [List.getElem?_append_left (by omega)]; exact hx
   simp only [hd,↓wA,↓wC,wB,cL,cK,bP,bQ,bR,reduceIte,reduceCtorEq,aA,bT]
   refine d5 (fun _:Unit=>⟨[(0,.own 0),(1,.d (.int .i64 0)),(2,.d (.int .i64 (v.length + 1))),(6,.d (.int .i64 ((k + 1:Nat):Int))),(7,.d (.int .i64 ((k + 1:Nat):Int)))],[.val (.sl true 1 (dl iD (v ++ [p])))]⟩) (fun _=>True) (fun _=>0) () (cU _ rfl ⟨⟨rfl,rfl⟩,⟨rfl,rfl⟩,⟨rfl,rfl⟩,⟨rfl,rfl⟩,⟨rfl,rfl⟩,trivial⟩) trivial ?_
   rintro _ _
   repeat' (first|(simp only [cO,eJ,h1,h2,hn1,h0,h0',c6,hg1,hg2,aC,cJ,aB,aCr,aBL,yK,↓wA,↓wC,wB,cL,cK,bP,bQ,bR,reduceIte,reduceCtorEq,aA,bT])|(refine cI (p8 y x) rfl rfl ?_)|(refine cM (p8 y x) rfl rfl ?_)|(refine cM (p8 _ _) rfl rfl ?_)|(with_reducible refine cP ?_ ?_; focus (simp only [dW]; omega))|((first|apply cG|apply cH|apply cF)<;>intro h<;>try simp only [h]))
   refine ⟨k + 1 + 1,?_,⟨by omega,by omega⟩,by omega⟩
   rw [if_pos (by omega)]
   exact (cU _ rfl ⟨⟨rfl,rfl⟩,⟨rfl,rfl⟩,⟨rfl,rfl⟩,⟨rfl,rfl⟩,trivial⟩)
  ·have e:i=v.length:=by omega
   subst e
   simp only [hd,↓wA,↓wC,wB,cL,cK,bP,bQ,bR,reduceIte,reduceCtorEq,aA,bT]
   refine d5 (fun j:Nat=>⟨[(0,.own 0),(1,.d (.int .i64 0)),(2,.d (.int .i64 (v.length + 1))),(6,.d (.int .i64 (v.length:Int))),(7,.d (.int .i64 j))],[.val (.sl true 1 (dl iD (mv p v j)))]⟩) (fun j=>j<=v.length/\∀ x,v[j]?=some x->¬ x < p) (fun j=>j) v.length ?_ ⟨bM _,fun x hx=>absurd (cV hx) (by omega)⟩ ?_
   ·rw [aVV]; exact (cU _ rfl ⟨⟨rfl,rfl⟩,⟨rfl,rfl⟩,⟨rfl,rfl⟩,⟨rfl,rfl⟩,⟨rfl,rfl⟩,trivial⟩)
   rintro j ⟨hj,hjx⟩
   cases j with
   | zero =>
    have hf:=hput 0 hj (fun m x hm _=>by omega) hjx
    have h1:decide (0 < ((0:Nat):Int))=false:=rfl
    repeat' (first|(simp only [h1,↓wA,↓wC,wB,cL,cK,bP,bQ,bR,reduceIte,reduceCtorEq,aA,bT])|(with_reducible refine cP ?_ ?_; focus (simp only [dW]; omega))|((first|apply cG|apply cH|apply cF)<;>intro h<;>try simp only [h]))
    refine ⟨v.length + 1,?_,⟨by omega,by omega⟩,by omega⟩
    rw [if_neg (by omega),<-hf]
    exact (cU _ rfl ⟨⟨rfl,rfl⟩,⟨rfl,rfl⟩,⟨rfl,rfl⟩,⟨rfl,rfl⟩,trivial⟩)
   | succ k =>
    obtain ⟨x,hx⟩:=dQ (show k < v.length by omega)
    have hne:=hnp hx
    have h1:decide (0 < ((k + 1:Nat):Int))=true:=decide_eq_true (by omega)
    have hn1:(((k + 1:Nat):Int) - 1).toNat=k:=by omega
    have h0:(0:Int)<=((k + 1:Nat):Int):=by omega
    have h0':(0:Int)<=((k + 1:Nat):Int) - 1:=by omega
    have hg1:=aU7 (p:=p) hj
    have hg2:=aVm (p:=p) hx
    have hml:=aS0 (p:=p) hj
    have hs1:((dl iD (mv p v (k + 1))).setN (k + 1) (.int .i64 x))=dl iD ((mv p v (k + 1)).set (k + 1) x):=gV (f:=iD) _ _ x
    have hs2:((dl iD ((mv p v (k + 1)).set (k + 1) x)).setN k (.int .i64 p))=dl iD (mv p v k):=(gV (f:=iD) _ _ p).trans (by rw [aPT hx])
    have hg3:((mv p v (k + 1)).set (k + 1) x)[k]?=some x:=by rw [List.getElem?_set_ne (by omega)]; exact hg2
    cases hc:decide (p < x) with
    | false =>
     have hf:=hput (k + 1) hj (fun m z hm hz=>by
      have hc':=of_decide_eq_false hc
      by_cases e:m=k
      ·subst e
       rw [hx] at hz
       injection hz with hz
       omega
      ·have:=aBK hr k m z x (by omega) hz hx
       omega) hjx
     repeat' (first|(simp only [cO,eJ,hml,h1,hc,hn1,h0,h0',c6,hg1,hg2,aC,cJ,aB,aCr,aBL,yK,↓wA,↓wC,wB,cL,cK,bP,bQ,bR,reduceIte,reduceCtorEq,aA,bT])|(refine cM (p8 _ _) rfl rfl ?_)|(with_reducible refine cP ?_ ?_; focus (simp only [dW]; omega))|((first|apply cG|apply cH|apply cF)<;>intro h<;>try simp only [h]))
     refine ⟨v.length + 1,?_,⟨by omega,by omega⟩,by omega⟩
     rw [if_neg (by omega),<-hf]
     exact (cU _ rfl ⟨⟨rfl,rfl⟩,⟨rfl,rfl⟩,⟨rfl,rfl⟩,⟨rfl,rfl⟩,trivial⟩)
    | true =>
     repeat' (first|(simp only [cO,eJ,hml,h1,hc,hn1,h0,h0',c6,hg1,hg2,hg3,hs1,hs2,lV,List.length_set,aC,cJ,aB,aCr,aBL,yK,↓wA,↓wC,wB,cL,cK,bP,bQ,bR,reduceIte,reduceCtorEq,aA,bT])|(refine cM (p8 _ _) rfl rfl ?_)|(refine dL ?_)|(with_reducible refine cP ?_ ?_; focus (simp only [dW]; omega))|((first|apply cG|apply cH|apply cF)<;>intro h<;>try simp only [h]))
     rw [show ((k + 1:Nat):Int) - 1=(k:Int) by omega]
     refine ⟨k,(cU _ rfl ⟨⟨rfl,rfl⟩,⟨rfl,rfl⟩,⟨rfl,rfl⟩,⟨rfl,rfl⟩,⟨rfl,rfl⟩,trivial⟩),⟨by omega,fun z hz=>?_⟩,by omega⟩
     rw [hx] at hz
     injection hz with hz
     have:=of_decide_eq_true hc
     omega
theorem aIu (n:Nat) (h:n<=7):Fn prog 214 [.int .u64 n] (fun rs=>rs=[.int .i64 (aEN n)]):=by
 have h1:=aNx n h
 refine cW aR8 [] ?_
 dsimp only [aR8,cT,c7]
 repeat' (first|(simp only [↓wA,↓wC,wB,cL,cK,bP,bQ,bR,reduceIte,reduceCtorEq,aA,bT])|(refine cI (h1) rfl rfl ?_)|(refine cM (h1) rfl rfl ?_)|((first|apply cG|apply cH|apply cF)<;>intro h<;>try simp only [h]))
theorem aSL (p:Int) (v:List Int) (m:Int) (hr:aDE v) (hp:p ∉ v) (hlen:v.length<=6):y7 prog 213 false (.sl true 1 (dl iD (v ++ [p]))) [.int .i64 0,.int .i64 (v.length + 1),.int .i64 m] (fun x' rs=>x'=.sl true 1 (dl iD (kQ p v))/\rs=[]):=by
 have hI:=aI3 p v hr hp hlen
 have h12:decide ((v.length:Int) + 1 - 0<=12)=true:=decide_eq_true (by omega)
 refine jY aRJ [] ?_
 dsimp only [aRJ,cT,c7]
 simp only [↓wA,↓wC,wB,cL,cK,bP,bQ,bR,reduceIte,reduceCtorEq,aA,bT]
 refine d5 (fun _:Unit=>⟨[(0,.own 0),(1,.d (.int .i64 0)),(2,.d (.int .i64 (v.length + 1))),(3,.d (.int .i64 m)),(8,.d (.bool true)),(9,.d (.bool true))],[.val (.sl true 1 (dl iD (v ++ [p])))]⟩) (fun _=>True) (fun _=>0) () (cU _ rfl ⟨⟨rfl,rfl⟩,⟨rfl,rfl⟩,⟨rfl,rfl⟩,⟨rfl,rfl⟩,⟨rfl,rfl⟩,⟨rfl,rfl⟩,trivial⟩) trivial ?_
 rintro _ _
 repeat' (first|(simp only [h12,↓wA,↓wC,wB,cL,cK,bP,bQ,bR,reduceIte,reduceCtorEq,aA,bT])|(refine mN hI rfl rfl rfl ?_)|(with_reducible refine cP ?_ ?_; focus (simp only [dW]; omega))|((first|apply cG|apply cH|apply cF)<;>intro h<;>try simp only [h]))
theorem aPg (p:Int) (v:List Int) (hr:aDE v) (hp:p ∉ v) (hlen:v.length<=6):y7 prog 191 false (.sl true 1 (dl iD (v ++ [p]))) [] (fun x' rs=>x'=.sl true 1 (dl iD (kQ p v))/\rs=[]):=by
 have hl:((v.length + 1:Nat):Int)=(v.length:Int) + 1:=by omega
 have hl2:(v ++ [p]).length=v.length + 1:=by simp
 have hB:Fn prog 214 [.int .u64 ((v.length:Int) + 1)] (fun rs=>rs=[.int .i64 (aEN (v.length + 1))]):=aIu (v.length + 1) (by omega)
 have hP:=aSL p v (aEN (v.length + 1)) hr hp hlen
 have hU:dW .u64 ((v.length:Int) + 1):=by
  have h8:v.length=0\/v.length=1\/v.length=2\/v.length=3\/v.length=4\/v.length=5\/v.length=6:=by omega
  rcases h8 with h|h|h|h|h|h|h
  all_goals
   rw [h]
   show IntKind.wrap .u64 _=_
   decide
 refine jY aQ2 [] ?_
 dsimp only [aQ2,cT,c7]
 repeat' (first|(simp only [cO,hl2,hl,↓wA,↓wC,wB,cL,cK,bP,bQ,bR,reduceIte,reduceCtorEq,aA,bT])|(refine cI (hB) rfl rfl ?_)|(refine cM (hB) rfl rfl ?_)|(refine cP hU ?_)|(refine mN hP rfl rfl rfl ?_)|(with_reducible refine cP ?_ ?_; focus (simp only [dW]; omega))|((first|apply cG|apply cH|apply cF)<;>intro h<;>try simp only [h]))
end Go.Pe.Tryz
namespace Go.Pe.Tryz
def q9 (id:Int):List Cs->Nat
 | []=>0
 | x :: xs=>if x.i < id then q9 id xs + 1 else 0
theorem rQ {id:Int}:∀ (xs:List Cs) (j:Nat),j<=xs.length->(∀ m x,m < j->xs[m]?=some x->x.i < id)->(∀ x,xs[j]?=some x->¬ x.i < id)->q9 id xs=j
 | [],j,h,_,_=>by
  simp at h
  subst h
  rfl
 | a :: t,0,_,_,h3=>by
  rw [q9,if_neg (h3 a rfl)]
 | a :: t,j + 1,h,h2,h3=>by
  rw [q9,if_pos (h2 0 a (by omega) rfl),rQ t j (by simpa using h) (fun m x hm hx=>h2 (m + 1) x (by omega) (by simpa using hx)) (fun x hx=>h3 x (by simpa using hx))]
def iQ (x:Cs) (xs:List Cs):List Cs:=xs.take (q9 x.i xs) ++ x :: xs.drop (q9 x.i xs)
def tY (v:Int) (x:Cs):Cs:={ x with h:=x.h.filter fun n=>!decide (n=v) }
def mF (id day:Int):List UInt8:=114 :: (Lib.itoa id ++ 32 :: 100 :: Lib.itoa day)
def lJ (o:Off) (i:Nat) (x:Cs):Off :=
 if x.a=1 then { o with cs:=o.cs.eraseIdx i,kept:=o.kept + 1 }
 else if x.a=2 then { o with cs:=o.cs.eraseIdx i,moved:=o.moved + 1 }
 else { o with cs:=o.cs.eraseIdx i,led:=o.led ++ [mF x.i o.day] }
def eE (o:Off) (x:Cs):Bool:=decide (x.d<=o.day) && (decide (x.a=1) || decide (x.a=2) || decide (x.h.length=0))
def vS (v:Int) (xs:List Cs):Bool:=xs.any fun x=>x.h.contains v
def mkO (o:Off) (k id a v:Int):Option Off :=
 if k=2 then (if 0<=fV o.cs id then none else some { o with cs:=iQ ⟨id,a,o.day + v,[]⟩ o.cs })
 else if a≠0 then none
 else if k=1 then (if id=0/\1<=v then some { o with day:=o.day + v } else none)
 else if k=4 then (if id=0/\vS v o.cs=true then some { o with cs:=o.cs.map (tY v) } else none)
 else if 0<=fV o.cs id then
  (match o.cs[(fV o.cs id).toNat]? with
  | some x=>if k=3 then (if x.h.contains v=true then none else some { o with cs:=o.cs.set (fV o.cs id).toNat { x with h:=kQ v x.h } })
   else if k=5 then (if 1<=v then some { o with cs:=o.cs.set (fV o.cs id).toNat { x with d:=x.d + v } } else none)
   else if k=6 then (if v=0/\eE o x=true then some (lJ o (fV o.cs id).toNat x) else none)
   else none
  | none=>none)
 else none
def gZ (o:Off) (k id a v:Int):Option Off:=if (dP o && dC v 0 20000)=true then (mkO o k id a v).filter dP else none
def m9 (o:Off) (k id a v:Int):Bool :=
 if k=1 then decide (id=0) && decide (a=0) && decide (1<=v)
 else if k=2 then dC id 1 999 && decide (fV o.cs id < 0) && dC a 1 3 && decide (0<=v)
 else if k=3 then decide (0<=fV o.cs id) && decide (a=0) && dC v 1 9
 else if k=4 then decide (id=0) && decide (a=0) && dC v 1 9
 else if k=5 then decide (0<=fV o.cs id) && decide (a=0) && decide (1<=v)
 else decide (k=6) && decide (0<=fV o.cs id) && decide (a=0) && decide (v=0)
def iG (o:Off) (k id a v:Int):Option Off :=
 if k=1 then (if v > 20000 - o.day then none else some { o with day:=o.day + v })
 else if k=2 then (if v > 20000 - o.day then none else some { o with cs:=iQ ⟨id,a,o.day + v,[]⟩ o.cs })
 else if k=4 then (if vS v o.cs=true then some { o with cs:=o.cs.map (tY v) } else none)
 else match o.cs[(fV o.cs id).toNat]? with
  | some x=>if k=3 then (if x.h.contains v=true then none else some { o with cs:=o.cs.set (fV o.cs id).toNat { x with h:=kQ v x.h } })
   else if k=5 then (if v > 20000 - x.d then none else some { o with cs:=o.cs.set (fV o.cs id).toNat { x with d:=x.d + v } })
   else if eE o x=true then some (lJ o (fV o.cs id).toNat x) else none
  | none=>none
def wL (o:Off) (k id a v:Int):Option Off:=(iG o k id a v).filter dP
def aF0 (o:Off) (k id a v:Int):Option Off:=if (dP o && m9 o k id a v)=true then wL o k id a v else none
theorem eM {o:Off} (h:dP o=true):0<=o.day/\o.day<=20000/\o.cs.length<=6/\0<=o.kept/\o.kept<=999/\0<=o.moved/\o.moved<=999/\o.led.length<=8/\(∀ s∈o.led,s.length<=40)/\(∀ x∈o.cs,gJ x=true):=by
 have hc:∀ x∈o.cs,gJ x=true:=fun x hx=>by
  obtain ⟨i,hi⟩:=List.getElem?_of_mem hx
  exact xN h hi
 simp only [dP,sA,aE,dC,decide_eq_true_eq] at h
 obtain ⟨⟨⟨⟨⟨h1,h2⟩,h3⟩,h4⟩,h5⟩,_⟩:=h
 have hl:o.led.length<=8/\∀ s∈o.led,s.length<=40:=by
  simp only [aCm,Bool.or_eq_true,Bool.not_eq_true',decide_eq_false_iff_not,eN,aE,dC,decide_eq_true_eq,bC,kJ] at h5
  rcases h5 with h5|⟨h5,h6⟩
  ·have:o.led=[]:=aN.1 (by omega)
   rw [this]; simp
  ·exact ⟨by omega,fun s hs=>by have:=(h6 s hs).1; omega⟩
 exact ⟨h1.1,h1.2,by omega,h3.1,h3.2,h4.1,h4.2,hl.1,hl.2,hc⟩
theorem fF {x:Cs} (h:gJ x=true):1<=x.i/\x.i<=999/\1<=x.a/\x.a<=3/\0<=x.d/\x.d<=20000/\x.h.length<=5/\(∀ n∈x.h,1<=n/\n<=9)/\oC x.h=true:=by
 simp only [gJ,aE,dC,decide_eq_true_eq,bC] at h
 obtain ⟨⟨⟨⟨h1,h2⟩,h3⟩,h4⟩,h5,h6⟩:=h
 exact ⟨h1.1,h1.2,h2.1,h2.2,h3.1,h3.2,by omega,h5,h6⟩
theorem xX {o:Off} {x:Cs} (hx:x∈o.cs) (h:gJ x=false):dP o=false:=by
 cases hh:dP o with
 | false=>rfl
 | true =>
  have:=(eM hh).2.2.2.2.2.2.2.2.2 x hx
  rw [h] at this; cases this
theorem fB {o:Off} (h:dP o=true):o.ok0:=by
 obtain ⟨_,_,h3,_,_,_,_,h8,h9,lB⟩:=eM h
 refine ⟨⟨by omega,fun x hx=>?_⟩,by omega,fun s hs=>by have:=h9 s hs; omega⟩
 have:=(fF (lB x hx)).2.2.2.2.2.2.1
 unfold Cs.ok0; omega
theorem aOX {o:Off} (h:o.day < 0\/20000 < o.day):dP o=false:=by
 cases hh:dP o with
 | false=>rfl
 | true =>
  have:=eM hh
  omega
theorem aOH (v:Int) (h:List Int):v∈kQ v h:=by simp [kQ]
theorem aEk (x:Cs) (xs:List Cs):x∈iQ x xs:=by simp [iQ]
theorem aBl {α:Type} {xs:List α} {i:Nat} {x y:α} (h:xs[i]?=some x):y∈xs.set i y:=by
 have:=cV h
 exact aD (i:=i) (by rw [List.getElem?_set]; simp [this])
theorem oA {o:Off} (h:dP o=false):(some o).filter dP=none:=by
 simp [aQ,h]
theorem aBV {x:Cs} (h:x.d < 0\/20000 < x.d):gJ x=false:=by
 cases hh:gJ x with
 | false=>rfl
 | true=>have:=fF hh; omega
theorem aIk {x:Cs} (h:x.i < 1\/999 < x.i):gJ x=false:=by
 cases hh:gJ x with
 | false=>rfl
 | true=>have:=fF hh; omega
theorem aII {x:Cs} (h:x.a < 1\/3 < x.a):gJ x=false:=by
 cases hh:gJ x with
 | false=>rfl
 | true=>have:=fF hh; omega
theorem aIH {x:Cs} {v:Int} (hv:v∈x.h) (h:v < 1\/9 < v):gJ x=false:=by
 cases hh:gJ x with
 | false=>rfl
 | true=>have:=(fF hh).2.2.2.2.2.2.2.1 v hv; omega
theorem aJL {o:Off} {v:Int} (h:dP o=true) (hv:v < 1\/9 < v):vS v o.cs=false:=by
 cases hh:vS v o.cs with
 | false=>rfl
 | true =>
  obtain ⟨x,hx,hc⟩:=List.any_eq_true.1 hh
  have:=(fF ((eM h).2.2.2.2.2.2.2.2.2 x hx)).2.2.2.2.2.2.2.1 v (aU.1 hc)
  omega
theorem jW {n a b:Int} (h1:a<=n) (h2:n<=b):dC n a b=true:=by simp [dC,h1,h2]
theorem aMP (o:Off) (k id a v:Int):aF0 o k id a v=gZ o k id a v:=by
 unfold aF0 gZ
 cases ho:dP o with
 | false=>simp
 | true =>
  have hp:=eM ho
  simp only [Bool.true_and]
  unfold wL iG mkO m9
  by_cases k1:k=1
  ·subst k1
   simp only [if_true,show ¬ (1:Int)=2 by decide,if_false]
   by_cases ha:a=0
   ·by_cases hi:id=0/\1<=v
    ·have e1:(decide (id=0) && decide (a=0) && decide (1<=v))=true:=by simp [hi.1,ha,hi.2]
     rw [if_pos e1,if_neg (show ¬ a≠0 from fun h=>h ha),if_pos hi]
     by_cases hv:v > 20000 - o.day
     ·rw [if_pos hv]
      split
      ·rw [oA (aOX (.inr (by simp only; omega)))]; rfl
      ·rfl
     ·rw [if_neg hv,if_pos (jW (by omega) (by omega))]
    ·have e1:¬ (decide (id=0) && decide (a=0) && decide (1<=v))=true:=by
      simp only [aE,decide_eq_true_eq]
      intro h; exact hi ⟨h.1.1,h.2⟩
     rw [if_neg e1,if_neg (show ¬ a≠0 from fun h=>h ha),if_neg hi]
     simp
   ·have e1:¬ (decide (id=0) && decide (a=0) && decide (1<=v))=true:=by simp [ha]
    rw [if_neg e1,if_pos ha]
    simp
  ·by_cases k2:k=2
   ·subst k2
    simp only [if_true,show ¬ (2:Int)=1 by decide,if_false]
    by_cases hf:0<=fV o.cs id
    ·rw [if_pos hf,if_neg (by simp only [aE,decide_eq_true_eq]; omega)]
     simp
    ·rw [if_neg hf]
     have hm:=aEk ⟨id,a,o.day + v,[]⟩ o.cs
     by_cases hs:(dC id 1 999 && decide (fV o.cs id < 0) && dC a 1 3 && decide (0<=v))=true
     ·rw [if_pos hs]
      simp only [aE,decide_eq_true_eq] at hs
      by_cases hv:v > 20000 - o.day
      ·rw [if_pos hv]
       split
       ·rw [oA (xX hm (aBV (.inr (by simp only; omega))))]; rfl
       ·rfl
      ·rw [if_neg hv,if_pos (jW (by omega) (by omega))]
     ·rw [if_neg hs]
      split
      ·rename_i hw
       have hw:=kT.1 hw
       rw [oA]
       simp only [aE,decide_eq_true_eq,kT] at hs
       by_cases q1:1<=id/\id<=999
       ·exact xX hm (aII (by simp only; omega))
       ·exact xX hm (aIk (by simp only; omega))
      ·rfl
   ·rw [if_neg k1,if_neg k1,if_neg k2,if_neg k2,if_neg k2,if_neg k1]
    by_cases ha:a=0
    case neg =>
     rw [if_pos ha,if_neg]
     ·simp
     ·split
      ·simp [ha]
      ·split
       ·simp [ha]
       ·split<;>simp [ha]
    rw [if_neg (show ¬ a≠0 from fun h=>h ha)]
    by_cases k4:k=4
    ·subst k4
     simp only [if_true,show ¬ (4:Int)=3 by decide,if_false]
     by_cases hi:id=0
     ·by_cases hv:1<=v/\v<=9
      ·have e1:(decide (id=0) && decide (a=0) && dC v 1 9)=true:=by
        simp only [aE,decide_eq_true_eq,kT]; exact ⟨⟨hi,ha⟩,hv⟩
       rw [if_pos e1,if_pos (jW (by omega) (by omega))]
       cases hh:vS v o.cs with
       | true=>rw [if_pos rfl,if_pos ⟨hi,rfl⟩]
       | false=>rw [if_neg (by decide),if_neg (show ¬ (id=0/\false=true) from fun h=>by cases h.2)]
      ·have e1:¬ (decide (id=0) && decide (a=0) && dC v 1 9)=true:=by
        simp only [aE,decide_eq_true_eq,kT]; exact fun h=>hv h.2
       rw [if_neg e1,aJL ho (by omega),if_neg (show ¬ (id=0/\false=true) from fun h=>by cases h.2)]
       simp
     ·have e1:¬ (decide (id=0) && decide (a=0) && dC v 1 9)=true:=by simp [hi]
      rw [if_neg e1,if_neg (show ¬ (id=0/\vS v o.cs=true) from fun h=>hi h.1)]
      simp
    ·rw [if_neg k4,if_neg k4,if_neg k4]
     by_cases hf:0<=fV o.cs id
     case neg =>
      rw [if_neg hf,if_neg]
      ·simp
      ·split
       ·simp [hf]
       ·split<;>simp [hf]
     rw [if_pos hf]
     rcases mQ o.cs id with ⟨_,hn⟩|⟨i,x,hi,hr,_⟩
     ·exact absurd hf (of_decide_eq_false hn)
     have hxc:=fF (hp.2.2.2.2.2.2.2.2.2 x (aD hr))
     rw [hi,aB,hr]
     simp only
     have hi0:(0:Int)<=(i:Int):=by omega
     by_cases k3:k=3
     ·subst k3
      simp only [if_true]
      by_cases hv:1<=v/\v<=9
      ·have e1:(decide (0<=(i:Int)) && decide (a=0) && dC v 1 9)=true:=by
        simp only [aE,decide_eq_true_eq,kT]; exact ⟨⟨hi0,ha⟩,hv⟩
       rw [if_pos e1,if_pos (jW (by omega) (by omega))]
      ·have e1:¬ (decide (0<=(i:Int)) && decide (a=0) && dC v 1 9)=true:=by
        simp only [aE,decide_eq_true_eq,kT]; exact fun h=>hv h.2
       rw [if_neg e1]
       split
       ·split
        ·rfl
        ·rw [oA (xX (x:={ x with h:=kQ v x.h }) (aBl hr) (aIH (aOH v x.h) (by omega)))]
       ·rfl
     ·rw [if_neg k3,if_neg k3,if_neg k3]
      by_cases k5:k=5
      ·subst k5
       simp only [if_true]
       by_cases hv:1<=v
       ·have e1:(decide (0<=(i:Int)) && decide (a=0) && decide (1<=v))=true:=by
         simp only [aE,decide_eq_true_eq]; exact ⟨⟨hi0,ha⟩,hv⟩
        rw [if_pos e1,if_pos hv]
        by_cases hv2:v > 20000 - x.d
        ·rw [if_pos hv2]
         split
         ·rw [oA (xX (x:={ x with d:=x.d + v }) (aBl hr) (aBV (.inr (by simp only; omega))))]; rfl
         ·rfl
        ·rw [if_neg hv2,if_pos (jW (by omega) (by omega))]
       ·have e1:¬ (decide (0<=(i:Int)) && decide (a=0) && decide (1<=v))=true:=by
         simp only [aE,decide_eq_true_eq]; exact fun h=>hv h.2
        rw [if_neg e1,if_neg hv]
        simp
      ·rw [if_neg k5,if_neg k5,if_neg k5]
       by_cases k6:k=6
       ·rw [if_pos k6]
        by_cases hv:v=0
        ·have e1:(decide (k=6) && decide (0<=(i:Int)) && decide (a=0) && decide (v=0))=true:=by
          simp only [aE,decide_eq_true_eq]; exact ⟨⟨⟨k6,hi0⟩,ha⟩,hv⟩
         rw [if_pos e1,if_pos (jW (by omega) (by omega))]
         cases hd:eE o x with
         | true=>rw [if_pos rfl,if_pos ⟨hv,rfl⟩]
         | false=>rw [if_neg (by decide),if_neg (show ¬ (v=0/\false=true) from fun h=>by cases h.2)]
        ·have e1:¬ (decide (k=6) && decide (0<=(i:Int)) && decide (a=0) && decide (v=0))=true:=by
          simp only [aE,decide_eq_true_eq]; exact fun h=>hv h.2
         rw [if_neg e1,if_neg (show ¬ (v=0/\eE o x=true) from fun h=>hv h.1)]
         simp
       ·have e1:¬ (decide (k=6) && decide (0<=(i:Int)) && decide (a=0) && decide (v=0))=true:=by
         simp only [aE,decide_eq_true_eq]; exact fun h=>k6 h.1.1.1
        rw [if_neg e1,if_neg k6]
        simp
end Go.Pe.Tryz
namespace Go.Pe.Tryz
open Go.Proofs.Tryz
theorem aLb (xs:List Cs) (hlen:xs.length<=1048576):Fn prog 101 [.sl false 4 (dl Cs.s xs)] (fun rs=>rs=[.sl true 4 (dl Cs.s xs)]):=by
 refine cW aRr [] ?_
 dsimp only [aRr,cT,c7]
 simp only [↓wA,↓wC,wB,cL,cK,bP,bQ,bR,reduceIte,reduceCtorEq,aA,bT,dE]
 refine aIC (fun h=>?_) ?_
 ·rw [cO] at h
  have e:xs=[]:=aN.1 h
  subst e
  simp only [↓wA,↓wC,wB,cL,cK,bP,bQ,bR,reduceIte,reduceCtorEq,aA,bT,dE]
  refine lM 4 ?_
  rfl
 ·simp only [cO,↓wA,↓wC,wB,cL,cK,bP,bQ,bR,reduceIte,reduceCtorEq,aA,bT,dE]
  refine cQ ⟨by omega,by omega⟩ ?_
  simp only [↓wA,↓wC,wB,cL,cK,bP,bQ,bR,reduceIte,reduceCtorEq,aA,bT,dE]
theorem aJ5 (L:List (List UInt8)) (hlen:L.length<=1048576):Fn prog 103 [.sl false 1 (dl D.str L)] (fun rs=>rs=[.sl true 1 (dl D.str L)]):=by
 refine cW aRM [] ?_
 dsimp only [aRM,cT,c7]
 simp only [↓wA,↓wC,wB,cL,cK,bP,bQ,bR,reduceIte,reduceCtorEq,aA,bT,dE]
 refine aIC (fun h=>?_) ?_
 ·rw [cO] at h
  have e:L=[]:=aN.1 h
  subst e
  simp only [↓wA,↓wC,wB,cL,cK,bP,bQ,bR,reduceIte,reduceCtorEq,aA,bT,dE]
  refine lM 1 ?_
  rfl
 ·simp only [cO,↓wA,↓wC,wB,cL,cK,bP,bQ,bR,reduceIte,reduceCtorEq,aA,bT,dE]
  refine cQ ⟨by omega,by omega⟩ ?_
  simp only [↓wA,↓wC,wB,cL,cK,bP,bQ,bR,reduceIte,reduceCtorEq,aA,bT,dE]
def cm (p:Bool×Cs):D:=if p.1 then p.2.o else p.2.s
def xQ (xs:List Cs) (i:Nat):List (Bool×Cs):=(xs.take i).map (fun x=>(true,x)) ++ (xs.drop i).map (fun x=>(false,x))
theorem aL5 (xs:List Cs) (i:Nat):(xQ xs i).length=xs.length:=by simp [xQ]; omega
theorem aMX {xs:List Cs} {i:Nat} {x:Cs} (hr:xs[i]?=some x):(xQ xs i)[i]?=some (false,x):=by
 have hi:=cV hr
 rw [xQ,List.getElem?_append_right (by simp; omega),aR,aK,aG (by omega),aS,List.getElem?_map,List.getElem?_drop]
 simp [hr]
theorem aMj {xs:List Cs} {i:Nat} {x:Cs} (hr:xs[i]?=some x):(xQ xs i).set i (true,x)=xQ xs (i + 1):=by
 have hi:=cV hr
 rw [xQ,aM _ _ (by simp; omega),aR,aK,aG (by omega),aS,aAx hr,List.map_cons,a8,xQ,e7 hr]
 simp
theorem aSU (xs:List Cs):dl cm (xQ xs 0)=dl Cs.s xs:=by
 simp only [xQ,bH,bL,aH,List.drop_zero,dl,aX]
 rfl
theorem aSo (xs:List Cs):dl cm (xQ xs xs.length)=dl Cs.o xs:=by
 simp only [xQ,aI,List.drop_length,bL,bD,dl,aX]
 rfl
theorem wD (o:Off) (ho:o.ok0):Fn prog 66 [o.s] (fun rs=>rs=[o.o]):=by
 have hC:=aLb o.cs ho.1.1
 have hT:=aJ5 o.led ho.2.1
 have hlen:=ho.1.1
 refine cW aT9 [[1,1,0,0],[1,1,1,0]] ?_
 dsimp only [aT9,cT,c7]
 simp only [Off.s,dU]
 repeat' (first|(simp only [cX,cR,cJ,↓wA,↓wC,wB,cL,cK,bP,bQ,bR,reduceIte,reduceCtorEq,aA,bT,dE])|(refine cI hC rfl rfl ?_)|((first|apply cG|apply cH|apply cF)<;>intro h<;>try simp only [h]))
 refine eI _ (e8 0 none [1] (es:=4) (xs:=dl Cs.s o.cs) rfl rfl) fun v1=>?_
 simp only [dY,cX,cR,cJ,cO,↓wA,↓wC,wB,cL,cK,bP,bQ,bR,reduceIte,reduceCtorEq,aA,bT,dE]
 refine dR o.cs.length (fun i:Nat=>⟨[(1,.ptr 0 0 []),(2,.ptr 1 0 []),(10,.d (.int .i64 o.cs.length)),(11,.d (.int .i64 i))],[.box (dU o (.lnk 4 v1) (.sl false 1 (dl D.str o.led))),.box (.st (.cons (.int .i64 0) (.cons (.sl true 4 .nil) (.cons (.int .i64 0) (.cons (.int .i64 0) (.cons (.sl true 1 .nil) .nil)))))),.dead,.val (.sl true 4 (dl cm (xQ o.cs i))),.tag 3 v1]⟩) (fun _=>True) ?_ trivial ?_ ?_
 ·rw [aSU]; exact (cU _ rfl ⟨⟨rfl,rfl⟩,⟨rfl,rfl⟩,⟨rfl,rfl⟩,⟨rfl,rfl⟩,trivial⟩)
 ·intro i hlt _ hd h0
  obtain ⟨x,hr⟩:=dQ hlt
  have h1:=aKE x.h (ho.1.2 x (aD hr))
  have hg:=aMX hr
  have hcm:cm (false,x)=x.p (.sl false 1 (dl iD x.h)):=rfl
  have hgs:∀ (y:D),((dl cm (xQ o.cs i)).setN i y).nth i=some y:=fun y=>by rw [oD,if_pos rfl,c6,hg]; rfl
  simp only [dU]
  repeat' (first|(simp only [cO,aL5,hd,h0,c6,aB,hg,hcm,hgs,eL,aC,cJ,cY,fM,eK,eR,↓wA,↓wC,wB,cL,cK,bP,bQ,bR,reduceIte,reduceCtorEq,aA,bT,dE])|(refine dL ?_)|(refine cI h1 rfl rfl ?_)|(refine cP (by simp only [dW]; omega) ?_)|((first|apply cG|apply cH|apply cF)<;>intro h<;>try simp only [h]))
  have e:x.p (.sl true 1 (dl iD x.h))=cm (true,x):=rfl
  rw [e,gV,aMj hr]
  exact ⟨i + 1,(cU _ rfl ⟨⟨rfl,rfl⟩,⟨rfl,rfl⟩,⟨rfl,rfl⟩,⟨rfl,rfl⟩,trivial⟩),by omega,by omega⟩
 ·intro _ hd
  rw [aSo]
  simp only [dU]
  repeat' (first|(simp only [cO,hd,cJ,↓wA,↓wC,wB,cL,cK,bP,bQ,bR,reduceIte,reduceCtorEq,aA,bT,dE])|((first|apply cG|apply cH|apply cF)<;>intro h<;>try simp only [h]))
  refine c8 (gB 0 4 3 none [1] rfl rfl rfl rfl (by decide) rfl) ?_
  simp only [dY,↓wA,↓wC,wB,cL,cK,bP,bQ,bR,reduceIte,reduceCtorEq,aA,bT,dE]
  repeat' (first|(simp only [cR,cJ,↓wA,↓wC,wB,cL,cK,bP,bQ,bR,reduceIte,reduceCtorEq,aA,bT,dE])|(refine cI hT rfl rfl ?_)|((first|apply cG|apply cH|apply cF)<;>intro h<;>try simp only [h]))
  all_goals exact cQ rfl rfl
theorem aJG {v:List Int} (h:oC v=true):aDE v:=fun j a b ha hb=>by
 have:=(rV v).1 h j (cV hb)
 rw [List.getD_eq_getElem?_getD,List.getD_eq_getElem?_getD,ha,hb] at this
 simpa using this
theorem aGO {v:List Int} (h:aDE v):v.Nodup:=by
 rw [List.Nodup,List.pairwise_iff_getElem]
 intro i j hi hj hij
 have:=aBK h j i v[i] v[j] hij (List.getElem?_eq_getElem hi) (List.getElem?_eq_getElem hj)
 omega
theorem aCz {v:Int}:∀ (h:List Int) (k:Nat),h.Nodup->h[k]?=some v->h.take k ++ h.drop (k + 1)=h.filter (fun n=>!decide (n=v))
 | [],k,_,hk=>by simp at hk
 | a :: t,0,hn,hk=>by
  simp only [List.getElem?_cons_zero,Option.some.injEq] at hk
  subst hk
  obtain ⟨h1,h2⟩:=bE.1 hn
  have:t.filter (fun n=>!decide (n=a))=t:=by
   rw [a7]
   intro x hx
   have:x≠a:=fun e=>h1 (e ▸ hx)
   simp [this]
  simp [this]
 | a :: t,k + 1,hn,hk=>by
  obtain ⟨h1,h2⟩:=bE.1 hn
  simp only [List.getElem?_cons_succ] at hk
  have ha:a≠v:=fun e=>h1 (e ▸ aD hk)
  have ih:=aCz t k h2 hk
  simp only [List.take_succ_cons,List.drop_succ_cons,aF,ih]
  simp [ha]
theorem aVn {v:Int} {h:List Int} (hn:h.contains v=false):h.filter (fun n=>!decide (n=v))=h:=by
 rw [a7]
 intro x hx
 have:x≠v:=fun e=>by
  subst e
  rw [aU.2 hx] at hn
  cases hn
 simp [this]
theorem aOg {v:Int} {h:List Int}:decide (0<=kS (fun x=>decide (v=x)) h)=h.contains v:=by
 rw [r6,tM]
def sX (v:Int) (xs:List Cs) (i:Nat):List Cs:=(xs.take i).map (tY v) ++ xs.drop i
theorem mY (v:Int) (xs:List Cs) (i:Nat):(sX v xs i).length=xs.length:=by simp [sX]; omega
theorem aG1 {v:Int} {xs:List Cs} {i:Nat} {x:Cs} (hr:xs[i]?=some x):(sX v xs i)[i]?=some x:=by
 have hi:=cV hr
 rw [sX,List.getElem?_append_right (by simp; omega),aR,aK,aG (by omega),aS,List.getElem?_drop]
 simpa using hr
theorem aB4 {v:Int} {xs:List Cs} {i:Nat} {x:Cs} (hr:xs[i]?=some x):(sX v xs i).set i (tY v x)=sX v xs (i + 1):=by
 have hi:=cV hr
 rw [sX,aM _ _ (by simp; omega),aR,aK,aG (by omega),aS,aAx hr,a8,sX,e7 hr]
 simp
theorem aEx {v:Int} {xs:List Cs} {i:Nat} {x:Cs} (hr:xs[i]?=some x):vS v (xs.take (i + 1))=(vS v (xs.take i) || x.h.contains v):=by
 rw [e7 hr]
 simp [vS]
theorem aIV (o:Off) (v:Int) (ho:o.ok0) (hn:∀ x∈o.cs,x.h.Nodup):y7 prog 147 true o.o [.int .i64 v] (fun x' rs=>x'=Off.o { o with cs:=o.cs.map (tY v) }/\rs=[.bool (vS v o.cs)]):=by
 have hlen:=ho.1.1
 refine jY aRF [[1,1,0,1,0,0,1,1,0,0,1,0],[1,1,0,1,0,0,1,1,1],[1,1,0,0],[1,1,1,0]] ?_
 dsimp only [aRF,cT,c7]
 simp only [Off.o,dU]
 repeat' (first|(simp only [cJ,↓wA,↓wC,wB,cL,cK,bP,bQ,bR,reduceIte,reduceCtorEq,aA,bT])|((first|apply cG|apply cH|apply cF)<;>intro h<;>try simp only [h]))
 refine eI _ (e8 0 none [1] (es:=4) (xs:=dl Cs.o o.cs) rfl rfl) fun v1=>?_
 simp only [dY,cJ,cO,↓wA,↓wC,wB,cL,cK,bP,bQ,bR,reduceIte,reduceCtorEq,aA,bT]
 refine dR o.cs.length (fun i:Nat=>⟨[(0,.ptr 0 0 []),(1,.d (.int .i64 v)),(5,.d (.bool (vS v (o.cs.take i)))),(12,.d (.int .i64 o.cs.length)),(13,.d (.int .i64 i))],[.box (dU o (.lnk 2 v1) (.sl true 1 (dl D.str o.led))),.val (.sl true 4 (dl Cs.o (sX v o.cs i))),.tag 1 v1]⟩) (fun _=>True) ?_ trivial ?_ ?_
 ·exact (cU _ rfl ⟨⟨rfl,rfl⟩,⟨rfl,rfl⟩,⟨rfl,rfl⟩,⟨rfl,rfl⟩,⟨rfl,rfl⟩,trivial⟩)
 ·intro i hlt _ hd h0
  obtain ⟨x,hr⟩:=dQ hlt
  have hg:=aG1 (v:=v) hr
  have hxo:=ho.1.2 x (aD hr)
  have hI:=aDL x.h v hxo
  have hI':Fn prog 189 [.sl false 1 (dl iD x.h).unown,.int .i64 v] (fun rs=>rs=[.int .i64 (kS (fun x=>decide (v=x)) x.h)]):=by rw [dM]; exact hI
  have hcm:Cs.o x=x.p (.sl true 1 (dl iD x.h)):=rfl
  have hgs:∀ (y:D),((dl Cs.o (sX v o.cs i)).setN i y).nth i=some y:=fun y=>by rw [oD,if_pos rfl,c6,hg]; rfl
  have hgn:(dl Cs.o (sX v o.cs i)).nth i=some (x.p (.sl true 1 (dl iD x.h))):=by rw [c6,hg]; rfl
  have hx:=aEx (v:=v) hr
  have hix:=aOg (v:=v) (h:=x.h)
  simp only [dU]
  repeat' (first|(simp only [cO,mY,hd,h0,cJ,↓wA,↓wC,wB,cL,cK,bP,bQ,bR,reduceIte,reduceCtorEq,aA,bT])|((first|apply cG|apply cH|apply cF)<;>intro h<;>try simp only [h]))
  refine eI _ (e8 1 (some i) [3] (es:=1) (xs:=dl iD x.h) rfl (by simp only [kE,hgn,aL,eK])) fun v2=>?_
  simp only [dY,hgn,aJ,eR,↓wA,↓wC,wB,cL,cK,bP,bQ,bR,reduceIte,reduceCtorEq,aA,bT]
  by_cases hge:0<=kS (fun x=>decide (v=x)) x.h
  ·obtain ⟨k,r,hk,hkr,hkp⟩:=aF7 hge
   have hrv:v=r:=of_decide_eq_true hkp
   subst hrv
   rw [hk] at hI' hix
   have hc:x.h.contains v=true:=by rw [<- hix]; exact decide_eq_true (by omega)
   rw [hc] at hix hx
   have hD:=aIZ x.h k (k + 1) (by omega) (by have:=cV hkr; omega)
   rw [show ((k + 1:Nat):Int)=(k:Int) + 1 by omega] at hD
   have hkl:k<=1048576:=by
    have:=cV hkr
    unfold Cs.ok0 at hxo
    omega
   have hdf:=aCz x.h k (hn x (aD hr)) hkr
   repeat' (first|(simp only [cO,mY,hd,h0,hix,hgn,hgs,eL,aB,aC,cJ,fM,eK,eR,↓wA,↓wC,wB,cL,cK,bP,bQ,bR,reduceIte,reduceCtorEq,aA,bT])|(refine cI (hI') rfl rfl ?_)|(refine cM (hI') rfl rfl ?_)|(refine dL ?_)|(with_reducible refine cP ?_ ?_; focus (simp only [dW]; omega))|((first|apply cG|apply cH|apply cF)<;>intro h<;>try simp only [h]))
   refine k9 (bx:=false) (r:=3) hD rfl rfl rfl ?_
   rintro _ _ ⟨⟨u,rfl⟩,rfl⟩
   repeat' (first|(simp only [cO,mY,hd,h0,hix,hgn,hgs,eL,aB,aC,cJ,fM,eK,eR,↓wA,↓wC,wB,cL,cK,bP,bQ,bR,reduceIte,reduceCtorEq,aA,bT])|(with_reducible refine cP ?_ ?_; focus (simp only [dW]; omega))|((first|apply cG|apply cH|apply cF)<;>intro h<;>try simp only [h]))
   refine c8 (gO.refl _) ?_
   repeat' (first|(simp only [cJ,↓wA,↓wC,wB,cL,cK,bP,bQ,bR,reduceIte,reduceCtorEq,aA,bT])|(with_reducible refine cP ?_ ?_; focus (simp only [dW]; omega))|((first|apply cG|apply cH|apply cF)<;>intro h<;>try simp only [h]))
   have e:x.p (.sl true 1 (dl iD (x.h.take k ++ x.h.drop (k + 1))))=Cs.o (tY v x):=by rw [hdf]; rfl
   rw [e,gV,aB4 hr]
   refine ⟨i + 1,?_,by omega,by omega⟩
   rw [hx,bA]
   exact (cU _ rfl ⟨⟨rfl,rfl⟩,⟨rfl,rfl⟩,⟨rfl,rfl⟩,⟨rfl,rfl⟩,⟨rfl,rfl⟩,trivial⟩)
  ·have hm:=aL3 hge
   rw [hm] at hI' hix
   have hc:x.h.contains v=false:=by rw [<- hix]; rfl
   rw [hc] at hix hx
   have hrx:tY v x=x:=by
    show ({ x with h:=_ }:Cs)=x
    rw [aVn hc]
   repeat' (first|(simp only [cO,mY,hd,h0,hix,hgn,hgs,eL,aB,aC,cJ,fM,eK,eR,↓wA,↓wC,wB,cL,cK,bP,bQ,bR,reduceIte,reduceCtorEq,aA,bT])|(refine cI (hI') rfl rfl ?_)|(refine cM (hI') rfl rfl ?_)|(with_reducible refine cP ?_ ?_; focus (simp only [dW]; omega))|((first|apply cG|apply cH|apply cF)<;>intro h<;>try simp only [h]))
   refine c8 (gB 1 4 3 (some i) [3] rfl (by simp only [kE,hgs,aL,eK]) rfl rfl (by decide) rfl) ?_
   simp only [dY,hgs,aJ,eR,eL,↓wA,↓wC,wB,cL,cK,bP,bQ,bR,reduceIte,reduceCtorEq,aA,bT]
   repeat' (first|(simp only [cJ,↓wA,↓wC,wB,cL,cK,bP,bQ,bR,reduceIte,reduceCtorEq,aA,bT])|(with_reducible refine cP ?_ ?_; focus (simp only [dW]; omega))|((first|apply cG|apply cH|apply cF)<;>intro h<;>try simp only [h]))
   have e:x.p (.sl true 1 (dl iD x.h))=Cs.o (tY v x):=by rw [hrx]; rfl
   rw [e,gV,aB4 hr]
   refine ⟨i + 1,?_,by omega,by omega⟩
   rw [hx,a6]
   exact (cU _ rfl ⟨⟨rfl,rfl⟩,⟨rfl,rfl⟩,⟨rfl,rfl⟩,⟨rfl,rfl⟩,⟨rfl,rfl⟩,trivial⟩)
 ·intro _ hd
  have er:sX v o.cs o.cs.length=o.cs.map (tY v):=by simp [sX]
  rw [er,aI]
  simp only [dU]
  repeat' (first|(simp only [cO,hd,cJ,↓wA,↓wC,wB,cL,cK,bP,bQ,bR,reduceIte,reduceCtorEq,aA,bT])|((first|apply cG|apply cH|apply cF)<;>intro h<;>try simp only [h]))
  refine c8 (gB 0 2 1 none [1] rfl rfl rfl rfl (by decide) rfl) ?_
  simp only [dY,↓wA,↓wC,wB,cL,cK,bP,bQ,bR,reduceIte,reduceCtorEq,aA,bT]
  repeat' (first|(simp only [cJ,↓wA,↓wC,wB,cL,cK,bP,bQ,bR,reduceIte,reduceCtorEq,aA,bT])|((first|apply cG|apply cH|apply cF)<;>intro h<;>try simp only [h]))
  all_goals exact ⟨rfl,rfl⟩
def aA7 (xs:List Cs):List (Bool×Cs):=xs.map fun x=>(true,x)
theorem aO6 (xs:List Cs):dl cm (aA7 xs)=dl Cs.o xs:=by
 simp only [dl,aA7,aX]; rfl
theorem aLR {xs:List Cs} {i:Nat} {x:Cs} (hr:xs[i]?=some x):(aA7 xs)[i]?=some (true,x):=by simp [aA7,hr]
theorem aNq {xs:List Cs} {i:Nat} {p:Bool×Cs} (hi:i < xs.length):(((aA7 xs).set i p).map cm).take i ++ (((aA7 xs).set i p).map cm).drop (i + 1)=(xs.eraseIdx i).map Cs.o:=by
 rw [<- bJ,<-bK,List.take_set_of_le (bM _),List.drop_set_of_lt (by omega),<-bF]
 unfold aA7
 rw [<- bJ,<-bK,<-bF,aX,List.eraseIdx_eq_take_drop_succ]
 rfl
theorem aO3 (xs:List (Bool×Cs)):∀ d∈xs.map cm,d.size=4:=fun d hd=>by
 obtain ⟨⟨b,x⟩,_,rfl⟩:=aY.1 hd
 cases b<;>rfl
theorem aM2 (L:List (List UInt8)) (s:List UInt8):(dl D.str L).app (D.cons (.str s) .nil)=dl D.str (L ++ [s]):=iM (f:=D.str) L s
theorem aNa (a b:List UInt8):([114] ++ a) ++ [32,100] ++ b=114 :: (a ++ 32 :: 100 :: b):=by simp
theorem aPm (o:Off) (i:Nat) (x:Cs) (ho:dP o=true) (hr:o.cs[i]?=some x):y7 prog 192 true o.o [.int .i64 i] (fun x' rs=>rs=[.bool (eE o x)]/\(eE o x=true->x'=(lJ o i x).o)):=by
 have hp:=eM ho
 have hx:=fF (hp.2.2.2.2.2.2.2.2.2 x (aD hr))
 have hil:=cV hr
 have hi0:(0:Int)<=(i:Int):=by omega
 have hgA:=aLR hr
 have hgn:(dl Cs.o o.cs).nth i=some (x.p (.sl true 1 (dl iD x.h))):=by rw [c6,hr]; rfl
 have hcmf:cm (false,x)=x.p (.sl false 1 (dl iD x.h)):=rfl
 have hset:(dl Cs.o o.cs).setN i (x.p (.sl false 1 (dl iD x.h)))=dl cm ((aA7 o.cs).set i (false,x)):=by
  rw [<- aO6,<-hcmf,gV]
 have hgF:((aA7 o.cs).set i (false,x))[i]?=some (false,x):=by
  rw [List.getElem?_set,if_pos rfl,if_pos (cV hgA)]
 have hxs:x.p (.sl false 1 (dl iD x.h))=x.s:=rfl
 have hD:=aIA (((aA7 o.cs).set i (false,x)).map cm) (aO3 _) i (i + 1) (by omega) (by simp [aA7]; omega)
 rw [aNq hil,show ((i + 1:Nat):Int)=(i:Int) + 1 by omega] at hD
 have hD:y7 prog 215 false (.sl true 4 (dl cm ((aA7 o.cs).set i (false,x)))) [.int .i64 i,.int .i64 ((i:Int) + 1)] (fun x' rs=>(∃ u,x'=.lnk 0 u)/\rs=[.sl true 4 (dl Cs.o (o.cs.eraseIdx i))]):=hD
 refine jY aRx [[1,1,1,0,1,0,1,1,1,1,1],[1,0],[1,0]] ?_
 dsimp only [aRx,cT,c7]
 simp only [Off.o,dU]
 repeat' (first|(simp only [cJ,↓wA,↓wC,wB,cL,cK,bP,bQ,bR,reduceIte,reduceCtorEq,aA,bT])|((first|apply cG|apply cH|apply cF)<;>intro h<;>try simp only [h]))
 refine eI _ (e8 0 none [1] (es:=4) (xs:=dl Cs.o o.cs) rfl rfl) fun v1=>?_
 simp only [dY,↓wA,↓wC,wB,cL,cK,bP,bQ,bR,reduceIte,reduceCtorEq,aA,bT]
 refine c8 (freeze 1 (some i) [3] (x:=.sl true 1 (dl iD x.h)) rfl (by simp only [kE,hgn,aL,eK]) rfl) ?_
 simp only [dY,hgn,aJ,eR,D.unown,dM,hset,↓wA,↓wC,wB,cL,cK,bP,bQ,bR,reduceIte,reduceCtorEq,aA,bT]
 have hdl:(1:Int)<=o.cs.length:=by omega
 cases h1:decide (o.day < x.d) with
 | true =>
  have hB:eE o x=false:=by
   have:=of_decide_eq_true h1
   unfold eE
   rw [decide_eq_false (by omega)]; rfl
  repeat' (first|(simp only [c6,hi0,hgF,hcmf,aB,aC,cJ,cY,hxs,↓iI,aWE,aWC,iN,iO,jK,jJ,iW,iV,iX,iZ,cO,h1,↓wA,↓wC,wB,cL,cK,bP,bQ,bR,reduceIte,reduceCtorEq,aA,bT])|((first|apply cG|apply cH|apply cF)<;>intro h<;>try simp only [h]))
  all_goals exact ⟨by rw [hB],fun h=>by rw [hB] at h; cases h⟩
 | false =>
  have h1':=of_decide_eq_false h1
  have h0:decide (x.d<=o.day)=true:=decide_eq_true (by omega)
  cases h2:decide (x.a=1) with
  | true =>
   have h2':=of_decide_eq_true h2
   have hB:eE o x=true:=by unfold eE; rw [h0,h2]; rfl
   have hO:(lJ o i x).o=dU { o with kept:=o.kept + 1 } (.sl true 4 (dl Cs.o (o.cs.eraseIdx i))) (.sl true 1 (dl D.str o.led)):=by
    unfold lJ; rw [if_pos h2']; rfl
   repeat' (first|(simp only [c6,hi0,hgF,hcmf,aB,aC,cJ,cY,hxs,↓iI,aWE,aWC,iN,iO,jK,jJ,iW,iV,iX,iZ,cO,h1,h2,↓wA,↓wC,wB,cL,cK,bP,bQ,bR,reduceIte,reduceCtorEq,aA,bT])|(with_reducible refine cP ?_ ?_; focus (simp only [dW]; omega))|((first|apply cG|apply cH|apply cF)<;>intro h<;>try simp only [h]))
   refine k9 (bx:=false) (r:=1) hD rfl rfl rfl ?_
   rintro _ _ ⟨⟨u,rfl⟩,rfl⟩
   repeat' (first|(simp only [c6,hi0,hgF,hcmf,aB,aC,cJ,cY,hxs,↓iI,aWE,aWC,iN,iO,jK,jJ,iW,iV,iX,iZ,cO,↓wA,↓wC,wB,cL,cK,bP,bQ,bR,reduceIte,reduceCtorEq,aA,bT])|((first|apply cG|apply cH|apply cF)<;>intro h<;>try simp only [h]))
   all_goals exact ⟨by rw [hB],fun _=>hO.symm⟩
  | false =>
   have h2':=of_decide_eq_false h2
   cases h3:decide (x.a=2) with
   | true =>
    have h3':=of_decide_eq_true h3
    have hB:eE o x=true:=by unfold eE; rw [h0,h2,h3]; rfl
    have hO:(lJ o i x).o=dU { o with moved:=o.moved + 1 } (.sl true 4 (dl Cs.o (o.cs.eraseIdx i))) (.sl true 1 (dl D.str o.led)):=by
     unfold lJ; rw [if_neg h2',if_pos h3']; rfl
    repeat' (first|(simp only [c6,hi0,hgF,hcmf,aB,aC,cJ,cY,hxs,↓iI,aWE,aWC,iN,iO,jK,jJ,iW,iV,iX,iZ,cO,h1,h2,h3,↓wA,↓wC,wB,cL,cK,bP,bQ,bR,reduceIte,reduceCtorEq,aA,bT])|(with_reducible refine cP ?_ ?_; focus (simp only [dW]; omega))|((first|apply cG|apply cH|apply cF)<;>intro h<;>try simp only [h]))
    refine k9 (bx:=false) (r:=1) hD rfl rfl rfl ?_
    rintro _ _ ⟨⟨u,rfl⟩,rfl⟩
    repeat' (first|(simp only [c6,hi0,hgF,hcmf,aB,aC,cJ,cY,hxs,↓iI,aWE,aWC,iN,iO,jK,jJ,iW,iV,iX,iZ,cO,↓wA,↓wC,wB,cL,cK,bP,bQ,bR,reduceIte,reduceCtorEq,aA,bT])|((first|apply cG|apply cH|apply cF)<;>intro h<;>try simp only [h]))
    all_goals exact ⟨by rw [hB],fun _=>hO.symm⟩
   | false =>
    have h3':=of_decide_eq_false h3
    cases h4:decide ((0:Int) < (x.h.length:Int)) with
    | true =>
     have h4':=of_decide_eq_true h4
     have hB:eE o x=false:=by unfold eE; rw [h0,h2,h3,decide_eq_false (by omega)]; rfl
     repeat' (first|(simp only [c6,hi0,hgF,hcmf,aB,aC,cJ,cY,hxs,↓iI,aWE,aWC,iN,iO,jK,jJ,iW,iV,iX,iZ,cO,h1,h2,h3,h4,↓wA,↓wC,wB,cL,cK,bP,bQ,bR,reduceIte,reduceCtorEq,aA,bT])|((first|apply cG|apply cH|apply cF)<;>intro h<;>try simp only [h]))
     all_goals exact ⟨by rw [hB],fun h=>by rw [hB] at h; cases h⟩
    | false =>
     have h4':=of_decide_eq_false h4
     have hB:eE o x=true:=by unfold eE; rw [h0,h2,h3,decide_eq_true (show x.h.length=0 by omega)]; rfl
     have hO:(lJ o i x).o=dU o (.sl true 4 (dl Cs.o (o.cs.eraseIdx i))) (.sl true 1 (dl D.str (o.led ++ [mF x.i o.day]))):=by
      unfold lJ; rw [if_neg h2',if_neg h3']; rfl
     have hiR:dW .i64 x.i:=by simp only [dW]; omega
     have hdR:dW .i64 o.day:=by simp only [dW]; omega
     have hN1:=fG x.i hiR
     have hN2:=fG o.day hdR
     have hl1:=eT x.i hiR
     have hl2:=eT o.day hdR
     have hE:=aNa (Lib.itoa x.i) (Lib.itoa o.day)
     have hE':114 :: (Lib.itoa x.i ++ 32 :: 100 :: Lib.itoa o.day)=mF x.i o.day:=rfl
     repeat' (first|(simp only [c6,hi0,hgF,hcmf,aB,aC,cJ,cY,hxs,↓iI,aWE,aWC,iN,iO,jK,jJ,iW,iV,iX,iZ,cO,h1,h2,h3,h4,↓wA,↓wC,wB,cL,cK,bP,bQ,bR,reduceIte,reduceCtorEq,aA,bT])|((first|apply cG|apply cH|apply cF)<;>intro h<;>try simp only [h]))
     refine eI _ (e8 0 none [4] (es:=1) (xs:=dl D.str o.led) rfl rfl) fun v2=>?_
     simp only [dY,↓wA,↓wC,wB,cL,cK,bP,bQ,bR,reduceIte,reduceCtorEq,aA,bT]
     repeat' (first|(simp only [c6,hi0,hgF,hcmf,aB,aC,cJ,cY,hxs,↓iI,aWE,aWC,iN,iO,jK,jJ,iW,iV,iX,iZ,cO,h1,h2,h3,h4,hE,hE',aM2,↓wA,↓wC,wB,cL,cK,bP,bQ,bR,reduceIte,reduceCtorEq,aA,bT])|(refine cI (hN1) rfl rfl ?_)|(refine cM (hN1) rfl rfl ?_)|(refine cI (hN2) rfl rfl ?_)|(refine cM (hN2) rfl rfl ?_)|(refine dL ?_)|(with_reducible refine cP ?_ ?_; focus (simp only [dW]; omega))|(with_reducible refine cQ ?_ ?_; focus omega)|(with_reducible refine cQ ?_ ?_; focus (simp only [aO,List.length_cons,List.length_nil]; omega))|((first|apply cG|apply cH|apply cF)<;>intro h<;>try simp only [h]))
     refine cQ (by simp) (cQ (by omega) ?_)
     refine cP (by simp only [dW]; omega) ?_
     refine k9 (bx:=false) (r:=1) hD rfl rfl rfl ?_
     rintro _ _ ⟨⟨u,rfl⟩,rfl⟩
     repeat' (first|(simp only [c6,hi0,hgF,hcmf,aB,aC,cJ,cY,hxs,↓iI,aWE,aWC,iN,iO,jK,jJ,iW,iV,iX,iZ,cO,↓wA,↓wC,wB,cL,cK,bP,bQ,bR,reduceIte,reduceCtorEq,aA,bT])|((first|apply cG|apply cH|apply cF)<;>intro h<;>try simp only [h]))
     all_goals exact ⟨by rw [hB],fun _=>hO.symm⟩
def j7 (k id a v:Int):D:=.st (.cons (.int .i64 k) (.cons (.int .i64 id) (.cons (.int .i64 a) (.cons (.int .i64 v) .nil))))
def aMq (r:Option Off) (x':D) (rs:List D):Prop:=rs=[.bool r.isSome]/\∀ o',r=some o'->x'=o'.o
theorem l6 {r:Option Off} {x':D} (h:r=none):aMq r x' [.bool false]:=⟨by rw [h]; rfl,fun o' e=>by rw [h] at e; cases e⟩
theorem pK {r:Option Off} {x':D} {o':Off} (h:r=some o') (hx:x'=o'.o):aMq r x' [.bool true]:=⟨by rw [h]; rfl,fun o'' e=>by rw [h] at e; injection e with e; rw [<- e,hx]⟩
def yC (o:Off) (i:Nat) (x:Cs) (k v:Int):Option Off :=
 if k=3 then (if x.h.contains v=true then none else some { o with cs:=o.cs.set i { x with h:=kQ v x.h } })
 else if k=5 then (if 1<=v then some { o with cs:=o.cs.set i { x with d:=x.d + v } } else none)
 else if k=6 then (if v=0/\eE o x=true then some (lJ o i x) else none)
 else none
theorem aFU (o:Off) (i:Nat) (x:Cs) (k id a v:Int) (ho:dP o=true) (hr:o.cs[i]?=some x) (hv0:0<=v) (hv1:v<=20000):y7 prog 148 true o.o [.int .i64 i,j7 k id a v] (aMq (yC o i x k v)):=by
 have hp:=eM ho
 have hx:=fF (hp.2.2.2.2.2.2.2.2.2 x (aD hr))
 have hil:=cV hr
 have hi0:(0:Int)<=(i:Int):=by omega
 have hgn:(dl Cs.o o.cs).nth i=some (x.p (.sl true 1 (dl iD x.h))):=by rw [c6,hr]; rfl
 have hgs:∀ (y:D),((dl Cs.o o.cs).setN i y).nth i=some y:=fun y=>by rw [oD,if_pos rfl,hgn]; rfl
 have hxo:x.h.length<=1048576:=by omega
 have hdl:(1:Int)<=o.cs.length:=by omega
 cases h3:decide (k=3) with
 | true =>
  have h3':=of_decide_eq_true h3
  have hC:=xY x.h v hxo
  have hC':Fn prog 151 [.sl false 1 (dl iD x.h).unown,.int .i64 v] (fun rs=>rs=[.bool (x.h.contains v)]):=by rw [dM]; exact hC
  have hO:yC o i x k v=if x.h.contains v=true then none else some { o with cs:=o.cs.set i { x with h:=kQ v x.h } }:=if_pos h3'
  refine jY aAI [[1,1,0,1,0,1,0,1,1,1,0],[1,1,0,1,0,1,0,1,1,1,0],[1,1,0,1,0,1,0,1,1,0],[1,1,0,1,0,1,0,0,0],[1,0]] ?_
  dsimp only [aAI,cT,c7]
  simp only [Off.o,dU,j7]
  repeat' (first|(simp only [cJ,↓wA,↓wC,wB,cL,cK,bP,bQ,bR,reduceIte,reduceCtorEq,aA,bT])|((first|apply cG|apply cH|apply cF)<;>intro h<;>try simp only [h]))
  refine eI _ (e8 0 none [1] (es:=4) (xs:=dl Cs.o o.cs) rfl rfl) fun v1=>?_
  simp only [dY,↓wA,↓wC,wB,cL,cK,bP,bQ,bR,reduceIte,reduceCtorEq,aA,bT]
  repeat' (first|(simp only [hi0,aB,hgn,hgs,h3,cJ,↓wA,↓wC,wB,cL,cK,bP,bQ,bR,reduceIte,reduceCtorEq,aA,bT])|((first|apply cG|apply cH|apply cF)<;>intro h<;>try simp only [h]))
  refine eI _ (e8 2 (some i) [3] (es:=1) (xs:=dl iD x.h) rfl (by simp only [kE,hgn,aL,eK])) fun v2=>?_
  simp only [dY,hgn,aJ,eR,↓wA,↓wC,wB,cL,cK,bP,bQ,bR,reduceIte,reduceCtorEq,aA,bT]
  cases hc:x.h.contains v with
  | true =>
   rw [hc] at hC' hO
   repeat' (first|(simp only [hi0,aB,hgn,hgs,h3,cJ,eL,fM,eK,eR,↓wA,↓wC,wB,cL,cK,bP,bQ,bR,reduceIte,reduceCtorEq,aA,bT])|(refine cI (hC') rfl rfl ?_)|(refine cM (hC') rfl rfl ?_)|((first|apply cG|apply cH|apply cF)<;>intro h<;>try simp only [h]))
   all_goals exact l6 (by rw [hO]; rfl)
  | false =>
   rw [hc] at hC' hO
   have hnv:v ∉ x.h:=fun h=>by rw [aU.2 h] at hc; cases hc
   have hS:=aPg v x.h (aJG hx.2.2.2.2.2.2.2.2) hnv (by omega)
   repeat' (first|(simp only [hi0,aB,hgn,hgs,h3,cJ,eL,fM,eK,eR,jL,jF,jI,gD,cO,↓wA,↓wC,wB,cL,cK,bP,bQ,bR,reduceIte,reduceCtorEq,aA,bT])|(refine cI (hC') rfl rfl ?_)|(refine cM (hC') rfl rfl ?_)|(refine dL ?_)|(with_reducible refine cQ ?_ ?_; focus (simp; done))|(with_reducible refine cQ ?_ ?_; focus omega)|((first|apply cG|apply cH|apply cF)<;>intro h<;>try simp only [h]))
   refine eI _ (e8 2 (some i) [3] (es:=1) (xs:=dl iD (x.h ++ [v])) rfl (by simp only [kE,hgs,aL,eK])) fun v3=>?_
   simp only [dY,hgs,aJ,eR,eL,↓wA,↓wC,wB,cL,cK,bP,bQ,bR,reduceIte,reduceCtorEq,aA,bT]
   repeat' (first|(simp only [hi0,aB,hgn,hgs,h3,cJ,eL,fM,eK,eR,jL,jF,jI,gD,cO,↓wA,↓wC,wB,cL,cK,bP,bQ,bR,reduceIte,reduceCtorEq,aA,bT])|((first|apply cG|apply cH|apply cF)<;>intro h<;>try simp only [h]))
   refine mN (bx:=false) (r:=7) hS rfl rfl rfl ?_
   repeat' (first|(simp only [hi0,aB,hgn,hgs,h3,cJ,eL,fM,eK,eR,jL,jF,jI,gD,cO,↓wA,↓wC,wB,cL,cK,bP,bQ,bR,reduceIte,reduceCtorEq,aA,bT])|((first|apply cG|apply cH|apply cF)<;>intro h<;>try simp only [h]))
   refine c8 (gB 2 8 7 (some i) [3] rfl (by simp only [kE,hgs,aL,eK]) rfl rfl (by decide) rfl) ?_
   simp only [dY,hgs,aJ,eR,eL,↓wA,↓wC,wB,cL,cK,bP,bQ,bR,reduceIte,reduceCtorEq,aA,bT]
   refine c8 (gB 0 3 2 none [1] rfl rfl rfl rfl (by decide) rfl) ?_
   simp only [dY,↓wA,↓wC,wB,cL,cK,bP,bQ,bR,reduceIte,reduceCtorEq,aA,bT]
   repeat' (first|(simp only [hi0,aB,hgn,hgs,h3,cJ,eL,fM,eK,eR,jL,jF,jI,gD,cO,↓wA,↓wC,wB,cL,cK,bP,bQ,bR,reduceIte,reduceCtorEq,aA,bT])|((first|apply cG|apply cH|apply cF)<;>intro h<;>try simp only [h]))
   have e:x.p (.sl true 1 (dl iD (kQ v x.h)))=Cs.o { x with h:=kQ v x.h }:=rfl
   all_goals refine pK (o':={ o with cs:=o.cs.set i { x with h:=kQ v x.h } }) (by rw [hO]; rfl) ?_
   rw [e,gV]; rfl
 | false =>
  have h3':=of_decide_eq_false h3
  cases h5:decide (k=5) with
  | true =>
   have h5':=of_decide_eq_true h5
   have hO:yC o i x k v=if 1<=v then some { o with cs:=o.cs.set i { x with d:=x.d + v } } else none:=by unfold yC; rw [if_neg h3',if_pos h5']
   refine jY aAI [[1,1,0,1,0,1,1,1,0,1,1],[1,0]] ?_
   dsimp only [aAI,cT,c7]
   simp only [Off.o,dU,j7]
   repeat' (first|(simp only [cJ,↓wA,↓wC,wB,cL,cK,bP,bQ,bR,reduceIte,reduceCtorEq,aA,bT])|((first|apply cG|apply cH|apply cF)<;>intro h<;>try simp only [h]))
   refine eI _ (e8 0 none [1] (es:=4) (xs:=dl Cs.o o.cs) rfl rfl) fun v1=>?_
   simp only [dY,↓wA,↓wC,wB,cL,cK,bP,bQ,bR,reduceIte,reduceCtorEq,aA,bT]
   repeat' (first|(simp only [hi0,aB,hgn,hgs,h3,cJ,eL,fM,eK,eR,jL,jF,jI,gD,cO,h5,↓wA,↓wC,wB,cL,cK,bP,bQ,bR,reduceIte,reduceCtorEq,aA,bT])|(refine dL ?_)|(with_reducible refine cP ?_ ?_; focus (simp only [dW]; omega))|((first|apply cG|apply cH|apply cF)<;>intro h<;>try simp only [h]))
   refine c8 (gB 0 3 2 none [1] rfl rfl rfl rfl (by decide) rfl) ?_
   simp only [dY,↓wA,↓wC,wB,cL,cK,bP,bQ,bR,reduceIte,reduceCtorEq,aA,bT]
   repeat' (first|(simp only [hi0,aB,hgn,hgs,h3,cJ,eL,fM,eK,eR,jL,jF,jI,gD,cO,↓wA,↓wC,wB,cL,cK,bP,bQ,bR,reduceIte,reduceCtorEq,aA,bT])|((first|apply cG|apply cH|apply cF)<;>intro h<;>try simp only [h]))
   have e:Cs.p { i:=x.i,a:=x.a,d:=x.d + v,h:=x.h } (.sl true 1 (dl iD x.h))=Cs.o { x with d:=x.d + v }:=rfl
   by_cases hv:1<=v
   ·rw [decide_eq_true hv]
    all_goals refine pK (o':={ o with cs:=o.cs.set i { x with d:=x.d + v } }) (by rw [hO,if_pos hv]) ?_
    rw [e,gV]; rfl
   ·rw [decide_eq_false hv]
    exact l6 (by rw [hO,if_neg hv])
  | false =>
   have h5':=of_decide_eq_false h5
   cases h6:decide (k=6) with
   | true =>
    have h6':=of_decide_eq_true h6
    have hO:yC o i x k v=if v=0/\eE o x=true then some (lJ o i x) else none:=by unfold yC; rw [if_neg h3',if_neg h5',if_pos h6']
    refine jY aAI [[1,1,0,1,0,1,1,1,1,1,0,0],[1,0]] ?_
    dsimp only [aAI,cT,c7]
    simp only [Off.o,dU,j7]
    repeat' (first|(simp only [cJ,↓wA,↓wC,wB,cL,cK,bP,bQ,bR,reduceIte,reduceCtorEq,aA,bT])|((first|apply cG|apply cH|apply cF)<;>intro h<;>try simp only [h]))
    refine eI _ (e8 0 none [1] (es:=4) (xs:=dl Cs.o o.cs) rfl rfl) fun v1=>?_
    simp only [dY,↓wA,↓wC,wB,cL,cK,bP,bQ,bR,reduceIte,reduceCtorEq,aA,bT]
    repeat' (first|(simp only [hi0,aB,hgn,hgs,h3,cJ,eL,fM,eK,eR,jL,jF,jI,gD,cO,h5,h6,↓wA,↓wC,wB,cL,cK,bP,bQ,bR,reduceIte,reduceCtorEq,aA,bT])|(with_reducible refine cP ?_ ?_; focus (simp only [dW]; omega))|((first|apply cG|apply cH|apply cF)<;>intro h<;>try simp only [h]))
    refine c8 (gB 0 3 2 none [1] rfl rfl rfl rfl (by decide) rfl) ?_
    simp only [dY,↓wA,↓wC,wB,cL,cK,bP,bQ,bR,reduceIte,reduceCtorEq,aA,bT]
    by_cases hv:v=0
    ·have hvd:decide (v=0)=true:=decide_eq_true hv
     repeat' (first|(simp only [hi0,aB,hgn,hgs,h3,cJ,eL,fM,eK,eR,jL,jF,jI,gD,cO,hvd,↓wA,↓wC,wB,cL,cK,bP,bQ,bR,reduceIte,reduceCtorEq,aA,bT])|((first|apply cG|apply cH|apply cF)<;>intro h<;>try simp only [h]))
     refine k9 (bx:=true) (r:=0) (aPm o i x ho hr) rfl rfl rfl ?_
     rintro x' _ ⟨rfl,hy⟩
     repeat' (first|(simp only [hi0,aB,hgn,hgs,h3,cJ,eL,fM,eK,eR,jL,jF,jI,gD,cO,hvd,↓wA,↓wC,wB,cL,cK,bP,bQ,bR,reduceIte,reduceCtorEq,aA,bT])|((first|apply cG|apply cH|apply cF)<;>intro h<;>try simp only [h]))
     cases hB:eE o x with
     | true=>exact pK (by rw [hO,if_pos ⟨hv,hB⟩]) (hy hB)
     | false=>exact l6 (by rw [hO,if_neg (fun h=>by rw [hB] at h; cases h.2)])
    ·have hvd:decide (v=0)=false:=decide_eq_false hv
     repeat' (first|(simp only [hi0,aB,hgn,hgs,h3,cJ,eL,fM,eK,eR,jL,jF,jI,gD,cO,hvd,↓wA,↓wC,wB,cL,cK,bP,bQ,bR,reduceIte,reduceCtorEq,aA,bT])|((first|apply cG|apply cH|apply cF)<;>intro h<;>try simp only [h]))
     all_goals exact l6 (by rw [hO,if_neg (fun h=>hv h.1)])
   | false =>
    have h6':=of_decide_eq_false h6
    have hO:yC o i x k v=none:=by unfold yC; rw [if_neg h3',if_neg h5',if_neg h6']
    refine jY aAI [[1,0]] ?_
    dsimp only [aAI,cT,c7]
    simp only [Off.o,dU,j7]
    repeat' (first|(simp only [cJ,↓wA,↓wC,wB,cL,cK,bP,bQ,bR,reduceIte,reduceCtorEq,aA,bT])|((first|apply cG|apply cH|apply cF)<;>intro h<;>try simp only [h]))
    refine eI _ (e8 0 none [1] (es:=4) (xs:=dl Cs.o o.cs) rfl rfl) fun v1=>?_
    simp only [dY,↓wA,↓wC,wB,cL,cK,bP,bQ,bR,reduceIte,reduceCtorEq,aA,bT]
    repeat' (first|(simp only [hi0,aB,hgn,hgs,h3,cJ,eL,fM,eK,eR,jL,jF,jI,gD,cO,h5,h6,↓wA,↓wC,wB,cL,cK,bP,bQ,bR,reduceIte,reduceCtorEq,aA,bT])|(with_reducible refine cP ?_ ?_; focus (simp only [dW]; omega))|((first|apply cG|apply cH|apply cF)<;>intro h<;>try simp only [h]))
    all_goals exact l6 hO
theorem aBJ:∀ (xs:List D) (i:Nat) (y:D),(jC xs).setN i y=jC (xs.set i y)
 | [],i,y=>by cases i<;>rfl
 | x :: xs,0,y=>rfl
 | x :: xs,i + 1,y=>by
  have:=aBJ xs i y
  simp only [jC,D.setN,List.set_cons_succ,this]
theorem dO {xs:D}:(D.st xs).isStB=true:=rfl
theorem aL7 (o:Off) (id a v:Int) (ho:dP o=true) (hv0:0<=v) (hv1:v<=20000):y7 prog 107 true o.o [j7 2 id a v] (aMq (mkO o 2 id a v)):=by
 have hp:=eM ho
 have ho0:=fB ho
 have hA:=z8 o id ho0
 have hM:mkO o 2 id a v=if 0<=fV o.cs id then none else some { o with cs:=iQ ⟨id,a,o.day + v,[]⟩ o.cs }:=if_pos rfl
 have h2:decide ((2:Int)=2)=true:=rfl
 cases hf:decide (0<=fV o.cs id) with
 | true =>
  have hf':=of_decide_eq_true hf
  rw [if_pos hf'] at hM
  refine jY tP [] ?_
  dsimp only [tP,cT,c7]
  simp only [Off.o,dU,j7]
  repeat' (first|(simp only [cJ,dO,hf,↓wA,↓wC,wB,cL,cK,bP,bQ,bR,reduceIte,reduceCtorEq,aA,bT])|(refine cM hA (congrArg (fun d:D=>some [d,.int .i64 id]) (aWH o)) rfl ?_)|((first|apply cG|apply cH|apply cF)<;>intro h<;>try simp only [h]))
  all_goals exact l6 hM
 | false =>
  have hf':=of_decide_eq_false hf
  rw [if_neg hf'] at hM
  refine jY tP [[1,1,0,0,1,0,1,1,1,1,0],[1,1,0,0,1,0,1,1,1,1,0],[1,1,0,0,1,0,1,1,1,1,0],[1,1,0,0,1,0,1,0]] ?_
  dsimp only [tP,cT,c7]
  simp only [Off.o,dU,j7]
  repeat' (first|(simp only [cJ,dO,hf,↓wA,↓wC,wB,cL,cK,bP,bQ,bR,reduceIte,reduceCtorEq,aA,bT])|(refine cM hA (congrArg (fun d:D=>some [d,.int .i64 id]) (aWH o)) rfl ?_)|((first|apply cG|apply cH|apply cF)<;>intro h<;>try simp only [h]))
  refine eI _ (e8 0 none [1] (es:=4) (xs:=dl Cs.o o.cs) rfl rfl) fun v1=>?_
  simp only [dY,↓wA,↓wC,wB,cL,cK,bP,bQ,bR,reduceIte,reduceCtorEq,aA,bT]
  repeat' (first|(simp only [cJ,↓wA,↓wC,wB,cL,cK,bP,bQ,bR,reduceIte,reduceCtorEq,aA,bT])|((first|apply cG|apply cH|apply cF)<;>intro h<;>try simp only [h]))
  refine d5 (fun j:Nat=>⟨[(0,.ptr 0 0 []),(3,.ptr 1 0 []),(6,.d (.int .i64 j))],[.box (dU o (.lnk 3 v1) (.sl true 1 (dl D.str o.led))),.box (j7 2 id a v),.val (.sl true 4 (dl Cs.o o.cs)),.tag 2 v1]⟩) (fun j=>j<=o.cs.length/\∀ m x,m < j->o.cs[m]?=some x->x.i < id) (fun j=>o.cs.length - j) 0 (cU _ rfl ⟨⟨rfl,rfl⟩,⟨rfl,rfl⟩,⟨rfl,rfl⟩,trivial⟩) ⟨by omega,fun m x hm=>by omega⟩ ?_
  rintro j ⟨hj1,hj2⟩
  simp only [dU,j7]
  have hcm:∀ x:Cs,Cs.o x=x.p (.sl true 1 (dl iD x.h)):=fun _=>rfl
  have hj0:(0:Int)<=(j:Int):=by omega
  by_cases hlt:j < o.cs.length
  ·obtain ⟨x,hr⟩:=dQ hlt
   have hd:decide ((j:Int) < (o.cs.length:Int))=true:=decide_eq_true (by omega)
   cases hx:decide (x.i < id) with
   | true =>
    repeat' (first|(simp only [cJ,cO,c6,hd,hx,hr,hj0,hcm,aB,aC,nW,nU,↓wA,↓wC,wB,cL,cK,bP,bQ,bR,reduceIte,reduceCtorEq,aA,bT])|(with_reducible refine cP ?_ ?_; focus (simp only [dW]; omega))|((first|apply cG|apply cH|apply cF)<;>intro h<;>try simp only [h]))
    refine ⟨j + 1,(cU _ rfl ⟨⟨rfl,rfl⟩,⟨rfl,rfl⟩,⟨rfl,rfl⟩,trivial⟩),⟨by omega,fun m y hm hy=>?_⟩,by omega⟩
    by_cases e:m=j
    ·subst e
     rw [hr] at hy
     injection hy with hy
     rw [<- hy]; exact of_decide_eq_true hx
    ·exact hj2 m y (by omega) hy
   | false =>
    have hpl:q9 id o.cs=j:=rQ o.cs j hj1 hj2 (fun y hy=>by rw [hr] at hy; injection hy with hy; rw [<- hy]; exact of_decide_eq_false hx)
    repeat' (first|(simp only [cJ,cO,c6,hd,hx,hr,hj0,hcm,aB,aC,nW,nU,↓wA,↓wC,wB,cL,cK,bP,bQ,bR,reduceIte,reduceCtorEq,aA,bT])|(refine dL ?_)|(with_reducible refine cP ?_ ?_; focus (simp only [dW]; omega))|((first|apply cG|apply cH|apply cF)<;>intro h<;>try simp only [h]))
    have hpe:iQ ⟨id,a,o.day + v,[]⟩ o.cs=o.cs.take j ++ ⟨id,a,o.day + v,[]⟩ :: o.cs.drop j:=by unfold iQ; rw [hpl]
    refine aJJ _ (e8 5 (some 0) [3] (es:=1) (xs:=.nil) rfl rfl) fun v2=>?_
    simp only [dY,D.nth,aJ,kG,D.setN,↓wA,↓wC,wB,cL,cK,bP,bQ,bR,reduceIte,reduceCtorEq,aA,bT]
    refine aGp 5 ?_
    simp only [aFF,w8,tU,D.unown,↓wA,↓wC,wB,cL,cK,bP,bQ,bR,reduceIte,reduceCtorEq,aA,bT]
    have hI:=aCU (o.cs.map Cs.o) (Cs.p ⟨id,a,o.day + v,[]⟩ (.lnk 7 v2)) (fun d hd=>by obtain ⟨y,_,rfl⟩:=aY.1 hd; rfl) rfl j (by simpa using hj1) (by simp; omega)
    refine k9 (bx:=false) (r:=2) hI rfl rfl rfl ?_
    rintro _ _ ⟨⟨u,rfl⟩,rfl⟩
    have hnth:(jC ((o.cs.map Cs.o).take j ++ Cs.p ⟨id,a,o.day + v,[]⟩ (.lnk 7 v2) :: (o.cs.map Cs.o).drop j)).nth j=some (Cs.p ⟨id,a,o.day + v,[]⟩ (.lnk 7 v2)):=by
     rw [qH,List.getElem?_append_right (by simp; omega)]
     simp [aG hj1]
    have hset:(jC ((o.cs.map Cs.o).take j ++ Cs.p ⟨id,a,o.day + v,[]⟩ (.lnk 7 v2) :: (o.cs.map Cs.o).drop j)).setN j (Cs.p ⟨id,a,o.day + v,[]⟩ (.sl true 1 .nil))=dl Cs.o (iQ ⟨id,a,o.day + v,[]⟩ o.cs):=by
     rw [aBJ,aM _ _ (by simp; omega),hpe]
     simp [aG hj1,dl]
     rfl
    generalize jC ((o.cs.map Cs.o).take j ++ Cs.p ⟨id,a,o.day + v,[]⟩ (.lnk 7 v2) :: (o.cs.map Cs.o).drop j)=NL at hnth hset
    repeat' (first|(simp only [cJ,↓wA,↓wC,wB,cL,cK,bP,bQ,bR,reduceIte,reduceCtorEq,aA,bT])|((first|apply cG|apply cH|apply cF)<;>intro h<;>try simp only [h]))
    refine eI _ (e8 0 none [1] (es:=4) (xs:=NL) rfl rfl) fun v3=>?_
    simp only [dY,↓wA,↓wC,wB,cL,cK,bP,bQ,bR,reduceIte,reduceCtorEq,aA,bT]
    refine c8 (gB 9 7 6 (some j) [3] rfl (by simp only [kE,hnth,aL,eK]) rfl rfl (by decide) rfl) ?_
    simp only [dY,hnth,aJ,eR,hset,↓wA,↓wC,wB,cL,cK,bP,bQ,bR,reduceIte,reduceCtorEq,aA,bT]
    refine c8 (gB 0 10 9 none [1] rfl rfl rfl rfl (by decide) rfl) ?_
    simp only [dY,↓wA,↓wC,wB,cL,cK,bP,bQ,bR,reduceIte,reduceCtorEq,aA,bT]
    repeat' (first|(simp only [cJ,↓wA,↓wC,wB,cL,cK,bP,bQ,bR,reduceIte,reduceCtorEq,aA,bT])|((first|apply cG|apply cH|apply cF)<;>intro h<;>try simp only [h]))
    all_goals exact pK hM rfl
  ·have e:j=o.cs.length:=by omega
   have hd:decide ((j:Int) < (o.cs.length:Int))=false:=decide_eq_false (by omega)
   have hpl:q9 id o.cs=j:=rQ o.cs j hj1 hj2 (fun y hy=>by have:=cV hy; omega)
   repeat' (first|(simp only [cJ,cO,c6,hd,hj0,hcm,aB,aC,nW,nU,↓wA,↓wC,wB,cL,cK,bP,bQ,bR,reduceIte,reduceCtorEq,aA,bT])|(refine dL ?_)|(with_reducible refine cP ?_ ?_; focus (simp only [dW]; omega))|((first|apply cG|apply cH|apply cF)<;>intro h<;>try simp only [h]))
   have hpe:iQ ⟨id,a,o.day + v,[]⟩ o.cs=o.cs.take j ++ ⟨id,a,o.day + v,[]⟩ :: o.cs.drop j:=by unfold iQ; rw [hpl]
   refine aJJ _ (e8 5 (some 0) [3] (es:=1) (xs:=.nil) rfl rfl) fun v2=>?_
   simp only [dY,D.nth,aJ,kG,D.setN,↓wA,↓wC,wB,cL,cK,bP,bQ,bR,reduceIte,reduceCtorEq,aA,bT]
   refine aGp 5 ?_
   simp only [aFF,w8,tU,D.unown,↓wA,↓wC,wB,cL,cK,bP,bQ,bR,reduceIte,reduceCtorEq,aA,bT]
   have hI:=aCU (o.cs.map Cs.o) (Cs.p ⟨id,a,o.day + v,[]⟩ (.lnk 7 v2)) (fun d hd=>by obtain ⟨y,_,rfl⟩:=aY.1 hd; rfl) rfl j (by simpa using hj1) (by simp; omega)
   refine k9 (bx:=false) (r:=2) hI rfl rfl rfl ?_
   rintro _ _ ⟨⟨u,rfl⟩,rfl⟩
   have hnth:(jC ((o.cs.map Cs.o).take j ++ Cs.p ⟨id,a,o.day + v,[]⟩ (.lnk 7 v2) :: (o.cs.map Cs.o).drop j)).nth j=some (Cs.p ⟨id,a,o.day + v,[]⟩ (.lnk 7 v2)):=by
    rw [qH,List.getElem?_append_right (by simp; omega)]
    simp [aG hj1]
   have hset:(jC ((o.cs.map Cs.o).take j ++ Cs.p ⟨id,a,o.day + v,[]⟩ (.lnk 7 v2) :: (o.cs.map Cs.o).drop j)).setN j (Cs.p ⟨id,a,o.day + v,[]⟩ (.sl true 1 .nil))=dl Cs.o (iQ ⟨id,a,o.day + v,[]⟩ o.cs):=by
    rw [aBJ,aM _ _ (by simp; omega),hpe]
    simp [aG hj1,dl]
    rfl
   generalize jC ((o.cs.map Cs.o).take j ++ Cs.p ⟨id,a,o.day + v,[]⟩ (.lnk 7 v2) :: (o.cs.map Cs.o).drop j)=NL at hnth hset
   repeat' (first|(simp only [cJ,↓wA,↓wC,wB,cL,cK,bP,bQ,bR,reduceIte,reduceCtorEq,aA,bT])|((first|apply cG|apply cH|apply cF)<;>intro h<;>try simp only [h]))
   refine eI _ (e8 0 none [1] (es:=4) (xs:=NL) rfl rfl) fun v3=>?_
   simp only [dY,↓wA,↓wC,wB,cL,cK,bP,bQ,bR,reduceIte,reduceCtorEq,aA,bT]
   refine c8 (gB 9 7 6 (some j) [3] rfl (by simp only [kE,hnth,aL,eK]) rfl rfl (by decide) rfl) ?_
   simp only [dY,hnth,aJ,eR,hset,↓wA,↓wC,wB,cL,cK,bP,bQ,bR,reduceIte,reduceCtorEq,aA,bT]
   refine c8 (gB 0 10 9 none [1] rfl rfl rfl rfl (by decide) rfl) ?_
   simp only [dY,↓wA,↓wC,wB,cL,cK,bP,bQ,bR,reduceIte,reduceCtorEq,aA,bT]
   repeat' (first|(simp only [cJ,↓wA,↓wC,wB,cL,cK,bP,bQ,bR,reduceIte,reduceCtorEq,aA,bT])|((first|apply cG|apply cH|apply cF)<;>intro h<;>try simp only [h]))
   all_goals exact pK hM rfl
theorem aDi (o:Off) (k id a v:Int) (ho:dP o=true) (hv0:0<=v) (hv1:v<=20000):y7 prog 107 true o.o [j7 k id a v] (aMq (mkO o k id a v)):=by
 have hp:=eM ho
 have ho0:=fB ho
 have hA:=z8 o id ho0
 cases k2:decide (k=2) with
 | true =>
  have:=of_decide_eq_true k2
  subst this
  exact aL7 o id a v ho hv0 hv1
 | false =>
  have k2':=of_decide_eq_false k2
  cases ha:decide (a=0) with
  | false =>
   have ha':=of_decide_eq_false ha
   have hM:mkO o k id a v=none:=by unfold mkO; rw [if_neg k2',if_pos ha']
   refine jY tP [] ?_
   dsimp only [tP,cT,c7]
   simp only [Off.o,dU,j7]
   repeat' (first|(simp only [cJ,dO,k2,ha,↓wA,↓wC,wB,cL,cK,bP,bQ,bR,reduceIte,reduceCtorEq,aA,bT])|(refine cM hA (congrArg (fun d:D=>some [d,.int .i64 id]) (aWH o)) rfl ?_)|((first|apply cG|apply cH|apply cF)<;>intro h<;>try simp only [h]))
   all_goals exact l6 hM
  | true =>
   have ha':=of_decide_eq_true ha
   have hM0:mkO o k id a v=mkO o k id a v:=rfl
   conv at hM0=>rhs; unfold mkO
   rw [if_neg k2',if_neg (show ¬ a≠0 from fun h=>h ha')] at hM0
   cases k1:decide (k=1) with
   | true =>
    have k1':=of_decide_eq_true k1
    rw [if_pos k1'] at hM0
    refine jY tP [] ?_
    dsimp only [tP,cT,c7]
    simp only [Off.o,dU,j7]
    cases hi:decide (id=0) with
    | true =>
     have hi':=of_decide_eq_true hi
     repeat' (first|(simp only [cJ,dO,k2,ha,k1,hi,↓wA,↓wC,wB,cL,cK,bP,bQ,bR,reduceIte,reduceCtorEq,aA,bT])|(refine dL ?_)|(refine cM hA (congrArg (fun d:D=>some [d,.int .i64 id]) (aWH o)) rfl ?_)|(with_reducible refine cP ?_ ?_; focus (simp only [dW]; omega))|((first|apply cG|apply cH|apply cF)<;>intro h<;>try simp only [h]))
     by_cases hv:1<=v
     ·rw [decide_eq_true hv]
      exact pK (o':={ o with day:=o.day + v }) (by rw [hM0,if_pos ⟨hi',hv⟩]) rfl
     ·rw [decide_eq_false hv]
      exact l6 (by rw [hM0,if_neg (fun h=>hv h.2)])
    | false =>
     have hi':=of_decide_eq_false hi
     repeat' (first|(simp only [cJ,dO,k2,ha,k1,hi,↓wA,↓wC,wB,cL,cK,bP,bQ,bR,reduceIte,reduceCtorEq,aA,bT])|(refine dL ?_)|(refine cM hA (congrArg (fun d:D=>some [d,.int .i64 id]) (aWH o)) rfl ?_)|(with_reducible refine cP ?_ ?_; focus (simp only [dW]; omega))|((first|apply cG|apply cH|apply cF)<;>intro h<;>try simp only [h]))
     all_goals exact l6 (by rw [hM0,if_neg (fun h=>hi' h.1)])
   | false =>
    have k1':=of_decide_eq_false k1
    rw [if_neg k1'] at hM0
    cases k4:decide (k=4) with
    | true =>
     have k4':=of_decide_eq_true k4
     rw [if_pos k4'] at hM0
     have hnd:∀ x∈o.cs,x.h.Nodup:=fun x hx=>aGO (aJG (fF (hp.2.2.2.2.2.2.2.2.2 x hx)).2.2.2.2.2.2.2.2)
     refine jY tP [] ?_
     dsimp only [tP,cT,c7]
     simp only [Off.o,dU,j7]
     cases hi:decide (id=0) with
     | true =>
      have hi':=of_decide_eq_true hi
      repeat' (first|(simp only [cJ,dO,k2,ha,k1,k4,hi,↓wA,↓wC,wB,cL,cK,bP,bQ,bR,reduceIte,reduceCtorEq,aA,bT])|(refine cM hA (congrArg (fun d:D=>some [d,.int .i64 id]) (aWH o)) rfl ?_)|((first|apply cG|apply cH|apply cF)<;>intro h<;>try simp only [h]))
      refine mN (bx:=true) (r:=0) (aIV o v ho0 hnd) rfl rfl rfl ?_
      repeat' (first|(simp only [cJ,hi,↓wA,↓wC,wB,cL,cK,bP,bQ,bR,reduceIte,reduceCtorEq,aA,bT])|((first|apply cG|apply cH|apply cF)<;>intro h<;>try simp only [h]))
      cases hh:vS v o.cs with
      | true=>exact pK (o':={ o with cs:=o.cs.map (tY v) }) (by rw [hM0,if_pos ⟨hi',hh⟩]) rfl
      | false=>exact l6 (by rw [hM0,if_neg (fun h=>by rw [hh] at h; cases h.2)])
     | false =>
      have hi':=of_decide_eq_false hi
      repeat' (first|(simp only [cJ,dO,k2,ha,k1,k4,hi,↓wA,↓wC,wB,cL,cK,bP,bQ,bR,reduceIte,reduceCtorEq,aA,bT])|(refine cM hA (congrArg (fun d:D=>some [d,.int .i64 id]) (aWH o)) rfl ?_)|((first|apply cG|apply cH|apply cF)<;>intro h<;>try simp only [h]))
      all_goals exact l6 (by rw [hM0,if_neg (fun h=>hi' h.1)])
    | false =>
     have k4':=of_decide_eq_false k4
     rw [if_neg k4'] at hM0
     refine jY tP [] ?_
     dsimp only [tP,cT,c7]
     simp only [Off.o,dU,j7]
     cases hf:decide (0<=fV o.cs id) with
     | false =>
      have hf':=of_decide_eq_false hf
      rw [if_neg hf'] at hM0
      repeat' (first|(simp only [cJ,dO,k2,ha,k1,k4,hf,↓wA,↓wC,wB,cL,cK,bP,bQ,bR,reduceIte,reduceCtorEq,aA,bT])|(refine cM hA (congrArg (fun d:D=>some [d,.int .i64 id]) (aWH o)) rfl ?_)|((first|apply cG|apply cH|apply cF)<;>intro h<;>try simp only [h]))
      all_goals exact l6 hM0
     | true =>
      have hf':=of_decide_eq_true hf
      rw [if_pos hf'] at hM0
      rcases mQ o.cs id with ⟨_,hn⟩|⟨i,x,hi,hr,_⟩
      ·exact absurd hf' (of_decide_eq_false hn)
      ·rw [hi,aB,hr] at hM0
       rw [hi] at hA hf
       have hS:=aFU o i x k id a v ho hr hv0 hv1
       repeat' (first|(simp only [cJ,dO,k2,ha,k1,k4,hf,↓wA,↓wC,wB,cL,cK,bP,bQ,bR,reduceIte,reduceCtorEq,aA,bT])|(refine cM hA (congrArg (fun d:D=>some [d,.int .i64 id]) (aWH o)) rfl ?_)|((first|apply cG|apply cH|apply cF)<;>intro h<;>try simp only [h]))
       refine k9 (bx:=true) (r:=0) hS rfl rfl rfl ?_
       rintro x' _ ⟨rfl,hx'⟩
       repeat' (first|(simp only [cJ,hf,↓wA,↓wC,wB,cL,cK,bP,bQ,bR,reduceIte,reduceCtorEq,aA,bT])|((first|apply cG|apply cH|apply cF)<;>intro h<;>try simp only [h]))
       have hM1:mkO o k id a v=yC o i x k v:=hM0
       all_goals exact ⟨by rw [hM1],fun o' h=>hx' o' (by rw [<- hM1]; exact h)⟩
def aDt:Off:=⟨0,[],0,0,[]⟩
theorem aFC (v:Int) (h:List Int):(kQ v h).length=h.length + 1:=by simp [kQ]; omega
theorem aBk {xs:List Cs} {i:Nat} {y:Cs} (h:o9 xs) (hy:y.ok0):o9 (xs.set i y):=⟨by simpa using h.1,fun z hz=>by
 rcases List.mem_or_eq_of_mem_set hz with hz|hz
 ·exact h.2 z hz
 ·rw [hz]; exact hy⟩
theorem aPF {o o':Off} {k id a v:Int} (ho:dP o=true) (hx:∀ (i:Nat) (x:Cs),o.cs[i]?=some x->gJ x=true) (h:mkO o k id a v=some o'):o'.ok0:=by
 have hp:=eM ho
 have h0:=fB ho
 unfold mkO at h
 by_cases k2:k=2
 ·rw [if_pos k2] at h
  split at h
  ·cases h
  ·injection h with h
   subst h
   refine ⟨⟨?_,fun x hx=>?_⟩,h0.2⟩
   ·simp [iQ]; omega
   ·rcases bG.1 hx with hx|hx
    ·exact h0.1.2 x (List.mem_of_mem_take hx)
    ·rcases List.mem_cons.1 hx with rfl|hx
     ·simp [Cs.ok0]
     ·exact h0.1.2 x (List.mem_of_mem_drop hx)
 ·rw [if_neg k2] at h
  split at h
  ·cases h
  split at h
  ·split at h
   ·injection h with h; subst h; exact h0
   ·cases h
  split at h
  ·split at h
   ·injection h with h
    subst h
    refine ⟨⟨by simpa using h0.1.1,fun x hx=>?_⟩,h0.2⟩
    obtain ⟨y,hy,rfl⟩:=aY.1 hx
    have h1:=h0.1.2 y hy
    have h2:=aZ (fun n=>!decide (n=v)) y.h
    exact Nat.le_trans h2 h1
   ·cases h
  split at h
  ·split at h
   ·rename_i x hr
    have hxc:=fF (hx _ x hr)
    split at h
    ·split at h
     ·cases h
     ·injection h with h
      subst h
      refine ⟨aBk h0.1 ?_,h0.2⟩
      show (kQ v x.h).length<=1048576
      rw [aFC]; omega
    ·split at h
     ·split at h
      ·injection h with h
       subst h
       refine ⟨aBk h0.1 ?_,h0.2⟩
       show x.h.length<=1048576
       omega
      ·cases h
     ·split at h
      ·split at h
       ·injection h with h
        subst h
        have he:∀ i,o9 (o.cs.eraseIdx i):=fun i=>⟨by have:=List.length_eraseIdx_le o.cs i; omega,fun y hy=>h0.1.2 y (List.mem_of_mem_eraseIdx hy)⟩
        unfold lJ
        split
        ·exact ⟨he _,h0.2⟩
        ·split
         ·exact ⟨he _,h0.2⟩
         ·refine ⟨he _,by simp; omega,fun s hs=>?_⟩
          rcases bG.1 hs with hs|hs
          ·exact h0.2.2 s hs
          ·rw [List.mem_singleton.1 hs]
           have h1:=eT x.i (by simp only [dW]; omega)
           have h2:=eT o.day (by simp only [dW]; omega)
           simp [mF]; omega
       ·cases h
      ·cases h
   ·cases h
  ·cases h
def s7:Option Off->List D
 | some o'=>[o'.o,.bool true]
 | none=>[aDt.o,.bool false]
theorem aHe (o:Off) (k id a v:Int) (ho:o.ok0):Fn prog 72 [o.s,j7 k id a v] (fun rs=>rs=s7 (gZ o k id a v)):=by
 have hV:=jV o ho
 have hW:=e9 v 0 20000
 cases hv:dP o with
 | false =>
  have hR:gZ o k id a v=none:=by unfold gZ; rw [hv]; rfl
  rw [hR]
  rw [hv] at hV
  refine cW aJQ [] ?_
  dsimp only [aJQ,cT,c7]
  simp only [j7]
  repeat' (first|(simp only [aWv,aWw,↓dF,cJ,↓wA,↓wC,wB,cL,cK,bP,bQ,bR,reduceIte,reduceCtorEq,aA,bT,dE])|(refine cI hV (by simp [dB,dI,aWu]) rfl ?_)|((first|apply cG|apply cH|apply cF)<;>intro h<;>try simp only [h]))
  all_goals rfl
 | true =>
  rw [hv] at hV
  cases hw:dC v 0 20000 with
  | false =>
   have hR:gZ o k id a v=none:=by unfold gZ; rw [hv,hw]; rfl
   rw [hR]
   rw [hw] at hW
   refine cW aJQ [] ?_
   dsimp only [aJQ,cT,c7]
   simp only [j7]
   repeat' (first|(simp only [aWv,aWw,↓dF,cJ,↓wA,↓wC,wB,cL,cK,bP,bQ,bR,reduceIte,reduceCtorEq,aA,bT,dE])|(refine cI (hW) rfl rfl ?_)|(refine cM (hW) rfl rfl ?_)|(refine cI hV (by simp [dB,dI,aWu]) rfl ?_)|((first|apply cG|apply cH|apply cF)<;>intro h<;>try simp only [h]))
   all_goals rfl
  | true =>
   have hwi:=kT.1 hw
   rw [hw] at hW
   have hR:gZ o k id a v=(mkO o k id a v).filter dP:=by unfold gZ; rw [hv,hw]; rfl
   have hC:=wD o ho
   have hS:=aDi o k id a v hv hwi.1 hwi.2
   have hno:∀ q:Off,q.o.noOwn=false:=fun q=>by simp [Off.o,dU,D.noOwn]
   have hst:∀ q:Off,q.o.isStB=true:=fun q=>rfl
   refine cW aJQ [] ?_
   dsimp only [aJQ,cT,c7]
   simp only [j7]
   repeat' (first|(simp only [aWv,aWw,aWO,aWM,aWz,hno,↓dF,cJ,↓wA,↓wC,wB,cL,cK,bP,bQ,bR,reduceIte,reduceCtorEq,aA,bT,dE])|(refine cI (hW) rfl rfl ?_)|(refine cM (hW) rfl rfl ?_)|(refine cI hV (by simp [dB,dI,aWu]) rfl ?_)|(refine cI hC (by simp [dB,dI,aWu]) rfl ?_)|((first|apply cG|apply cH|apply cF)<;>intro h<;>try simp only [h]))
   refine k9 (bx:=true) (r:=4) hS rfl rfl rfl ?_
   rintro x' _ ⟨rfl,hx'⟩
   rw [hR]
   cases hM:mkO o k id a v with
   | none =>
    repeat' (first|(simp only [dO,cJ,Option.isSome_none,↓wA,↓wC,wB,cL,cK,bP,bQ,bR,reduceIte,reduceCtorEq,aA,bT,dE])|((first|apply cG|apply cH|apply cF)<;>intro h<;>try simp only [h]))
    all_goals rfl
   | some o' =>
    obtain rfl:=hx' o' hM
    have hV':=jV o' (aPF hv (fun i x hr=>(eM hv).2.2.2.2.2.2.2.2.2 x (aD hr)) hM)
    cases hv':dP o' with
    | true =>
     rw [hv'] at hV'
     have hr:s7 (aQ dP (some o'))=[o'.o,.bool true]:=by simp [aQ,hv',s7]
     rw [hr]
     repeat' (first|(simp only [dO,hst,cJ,bB,aWO,aWM,hno,↓dF,↓wA,↓wC,wB,cL,cK,bP,bQ,bR,reduceIte,reduceCtorEq,aA,bT,dE])|(refine cI hV' (congrArg (fun d:D=>some [d]) (aWH o')) rfl ?_)|((first|apply cG|apply cH|apply cF)<;>intro h<;>try simp only [h]))
     exact ⟨_,rfl,rfl,rfl,rfl,rfl⟩
    | false =>
     rw [hv'] at hV'
     have hr:s7 (aQ dP (some o'))=[aDt.o,.bool false]:=by simp [aQ,hv',s7]
     rw [hr]
     repeat' (first|(simp only [dO,hst,cJ,bB,aWO,aWM,hno,↓dF,↓wA,↓wC,wB,cL,cK,bP,bQ,bR,reduceIte,reduceCtorEq,aA,bT,dE])|(refine cI hV' (congrArg (fun d:D=>some [d]) (aWH o')) rfl ?_)|((first|apply cG|apply cH|apply cF)<;>intro h<;>try simp only [h]))
     all_goals rfl
structure Stp where
 k:Int
 i:Int
 a:Int
 v:Int
def Stp.d (s:Stp):D:=j7 s.k s.i s.a s.v
theorem yI {o q:Off} {k id a v:Int} (h:gZ o k id a v=some q):dP q=true:=by
 unfold gZ at h
 split at h
 ·cases hm:mkO o k id a v with
  | none=>rw [hm] at h; cases h
  | some o' =>
   rw [hm] at h
   simp only [aQ] at h
   split at h
   ·rename_i hv; injection h with h; rw [<- h]; exact hv
   ·cases h
 ·cases h
def zO:D:=.st (.cons (.int .i64 0) (.cons (.sl true 4 .nil) (.cons (.int .i64 0) (.cons (.int .i64 0) (.cons (.sl true 1 .nil) .nil)))))
def Off.w (o:Off):D:=dU o (.sl true 4 (dl Cs.s o.cs)) (.sl true 1 (dl D.str o.led))
def aGb (o:Off) (j:Nat) (l:List Ob):St:=⟨[(1,.d (.ptr o.s)),(2,.ptr 1 0 []),(3,.ptr j 0 [])],.dead :: .box zO :: (l ++ [.box (dU o (.sl true 4 .nil) (.sl true 1 (dl D.str o.led)))])⟩
theorem aRt {F:(St->Prop)->Prop} {Q:St->Prop} (J:St->Prop) (h:F J) (h2:∀ s',J s'->∃ s1,gO s' s1/\Q s1):onJ F Q:=⟨J,h,h2⟩
theorem u5 (v:List Int) (hlen:v.length<=1048576):Fn prog 84 [.sl false 1 (dl iD v)] (fun rs=>rs=[.sl true 1 (dl iD v)]):=by
 refine cW aT8 [] ?_
 dsimp only [aT8,cT,c7]
 simp only [cO,↓wA,↓wC,wB,cL,cK,bP,bQ,bR,reduceIte,reduceCtorEq,aA,bT,dE]
 refine cQ ⟨by omega,by omega⟩ ?_
 simp only [↓wA,↓wC,wB,cL,cK,bP,bQ,bR,reduceIte,reduceCtorEq,aA,bT,dE]
theorem kD (o:Off) (ho:o.ok0):Fn prog 52 [o.s] (fun rs=>rs=[o.w]):=by
 have hlen:=ho.1.1
 have hlen2:=ho.2.1
 refine cW aU1 [[1,1,0,1,0,0,1,0,0,1],[1,1,0,1,0,0,1,0,0,1],[1,0]] ?_
 dsimp only [aU1,cT,c7]
 simp only [Off.s,dU]
 repeat' (first|(simp only [cX,cR,cJ,cO,↓wA,↓wC,wB,cL,cK,bP,bQ,bR,reduceIte,reduceCtorEq,aA,bT,dE])|((first|apply cG|apply cH|apply cF)<;>intro h<;>try simp only [h]))
 refine c8 (gI 0 rfl) ?_
 simp only [cL,cK,D.unown,fS,fA,cX,cR,cJ,cO,↓wA,↓wC,wB,cL,cK,bP,bQ,bR,reduceIte,reduceCtorEq,aA,bT,dE]
 refine aRt (fun s=>gO s (aGb o 2 [])\/gO s (aGb o 3 [.dead])\/gO s (aGb o 4 [.dead,.dead])\/gO s (aGb o 5 [.dead,.dead,.dead])) ?_ ?_
 ·repeat' (first
   |(with_reducible refine aV ?_ ?_)
   |(with_reducible refine cQ ?_ ?_; focus omega))
  all_goals (first|exact .inl (cU _ rfl ⟨⟨rfl,rfl⟩,⟨rfl,rfl⟩,⟨rfl,rfl⟩,trivial⟩)|exact .inr (.inl (cU _ rfl ⟨⟨rfl,rfl⟩,⟨rfl,rfl⟩,⟨rfl,rfl⟩,trivial⟩))|exact .inr (.inr (.inl (cU _ rfl ⟨⟨rfl,rfl⟩,⟨rfl,rfl⟩,⟨rfl,rfl⟩,trivial⟩)))|exact .inr (.inr (.inr (cU _ rfl ⟨⟨rfl,rfl⟩,⟨rfl,rfl⟩,⟨rfl,rfl⟩,trivial⟩)))|trace_state)
 ·rintro s' (h|h|h|h)
  ·refine ⟨_,h,?_⟩
   simp only [aGb,aF,aH,↓wA,↓wC,wB,cL,cK,bP,bQ,bR,reduceIte,reduceCtorEq,aA,bT,dE]
   refine dR o.cs.length (fun i:Nat=>⟨[(1,.d (.ptr o.s)),(2,.ptr 1 0 []),(3,.ptr 2 0 []),(4,.d (.int .i64 i))],.dead :: .box zO :: ([] ++ [.box (dU o (.sl true 4 (dl Cs.s (o.cs.take i))) (.sl true 1 (dl D.str o.led)))])⟩) (fun _=>True) ?_ trivial ?_ ?_
   ·exact (cU _ rfl ⟨⟨rfl,rfl⟩,⟨rfl,rfl⟩,⟨rfl,rfl⟩,⟨rfl,rfl⟩,trivial⟩)
   ·intro i hlt _ hd h0
    obtain ⟨x,hr⟩:=dQ hlt
    have h1:Fn prog 84 [.sl false 1 (dl iD x.h)] (fun rs=>rs=[.sl false 1 (dl iD x.h)]):=by
     have h:=fX (u5 x.h (ho.1.2 x (aD hr)))
     simpa [D.unown,dM] using h
    simp only [Off.s,dU,aF,aH]
    repeat' (first|(simp only [cO,hd,h0,c6,aB,hr,aC,cJ,cX,cR,↓iI,aWE,aWC,↓wA,↓wC,wB,cL,cK,bP,bQ,bR,reduceIte,reduceCtorEq,aA,bT,dE])|(refine cP (by simp only [dW]; omega) ?_)|((first|apply cG|apply cH|apply cF)<;>intro h<;>try simp only [h]))
    refine c8 (gI 3 rfl) ?_
    simp only [cL,cK,aWD,↓wA,↓wC,wB,cL,cK,bP,bQ,bR,reduceIte,reduceCtorEq,aA,bT,dE]
    refine eI _ (e8 2 none [1] (es:=4) (xs:=dl Cs.s (o.cs.take i)) rfl rfl) fun v1=>?_
    simp only [dY,Cs.s,Cs.p,cX,cR,cJ,cO,↓wA,↓wC,wB,cL,cK,bP,bQ,bR,reduceIte,reduceCtorEq,aA,bT,dE]
    repeat' (first|(simp only [cO,hd,h0,cJ,cX,cR,cY,↓wA,↓wC,wB,cL,cK,bP,bQ,bR,reduceIte,reduceCtorEq,aA,bT,dE])|(refine dL ?_)|(refine cI h1 rfl rfl ?_)|(with_reducible refine cQ ?_ ?_; focus omega)|(refine cP (by simp only [dW]; omega) ?_)|((first|apply cG|apply cH|apply cF)<;>intro h<;>try simp only [h]))
    refine cQ (by simp) ?_
    have hl:(o.cs.take i).length=i:=by simp; omega
    refine cQ (by rw [hl]; omega) ?_
    refine cP (by simp only [dW]; omega) ?_
    refine ⟨i + 1,?_,by omega,by omega⟩
    have happ:(dl Cs.s (o.cs.take i)).app ((D.st (.cons (.int .i64 x.i) (.cons (.int .i64 x.a) (.cons (.int .i64 x.d) (.cons (.sl false 1 (dl iD x.h)) .nil))))).cons .nil)=dl Cs.s (o.cs.take (i + 1)):=(iM (f:=Cs.s) (o.cs.take i) x).trans (by rw [e7 hr])
    rw [happ]
    exact (cU _ rfl ⟨⟨rfl,rfl⟩,⟨rfl,rfl⟩,⟨rfl,rfl⟩,⟨rfl,rfl⟩,trivial⟩)
   ·intro _ hd
    rw [aI]
    simp only [Off.s,dU,aF,aH]
    repeat' (first|(simp only [cO,hd,cJ,↓wA,↓wC,wB,cL,cK,bP,bQ,bR,reduceIte,reduceCtorEq,aA,bT,dE])|((first|apply cG|apply cH|apply cF)<;>intro h<;>try simp only [h]))
    exact cQ (cX _) (cQ rfl (cQ rfl rfl))
  ·refine ⟨_,h,?_⟩
   simp only [aGb,aF,aH,↓wA,↓wC,wB,cL,cK,bP,bQ,bR,reduceIte,reduceCtorEq,aA,bT,dE]
   refine dR o.cs.length (fun i:Nat=>⟨[(1,.d (.ptr o.s)),(2,.ptr 1 0 []),(3,.ptr 3 0 []),(4,.d (.int .i64 i))],.dead :: .box zO :: ([.dead] ++ [.box (dU o (.sl true 4 (dl Cs.s (o.cs.take i))) (.sl true 1 (dl D.str o.led)))])⟩) (fun _=>True) ?_ trivial ?_ ?_
   ·exact (cU _ rfl ⟨⟨rfl,rfl⟩,⟨rfl,rfl⟩,⟨rfl,rfl⟩,⟨rfl,rfl⟩,trivial⟩)
   ·intro i hlt _ hd h0
    obtain ⟨x,hr⟩:=dQ hlt
    have h1:Fn prog 84 [.sl false 1 (dl iD x.h)] (fun rs=>rs=[.sl false 1 (dl iD x.h)]):=by
     have h:=fX (u5 x.h (ho.1.2 x (aD hr)))
     simpa [D.unown,dM] using h
    simp only [Off.s,dU,aF,aH]
    repeat' (first|(simp only [cO,hd,h0,c6,aB,hr,aC,cJ,cX,cR,↓iI,aWE,aWC,↓wA,↓wC,wB,cL,cK,bP,bQ,bR,reduceIte,reduceCtorEq,aA,bT,dE])|(refine cP (by simp only [dW]; omega) ?_)|((first|apply cG|apply cH|apply cF)<;>intro h<;>try simp only [h]))
    refine c8 (gI 4 rfl) ?_
    simp only [cL,cK,aWD,↓wA,↓wC,wB,cL,cK,bP,bQ,bR,reduceIte,reduceCtorEq,aA,bT,dE]
    refine eI _ (e8 3 none [1] (es:=4) (xs:=dl Cs.s (o.cs.take i)) rfl rfl) fun v1=>?_
    simp only [dY,Cs.s,Cs.p,cX,cR,cJ,cO,↓wA,↓wC,wB,cL,cK,bP,bQ,bR,reduceIte,reduceCtorEq,aA,bT,dE]
    repeat' (first|(simp only [cO,hd,h0,cJ,cX,cR,cY,↓wA,↓wC,wB,cL,cK,bP,bQ,bR,reduceIte,reduceCtorEq,aA,bT,dE])|(refine dL ?_)|(refine cI h1 rfl rfl ?_)|(with_reducible refine cQ ?_ ?_; focus omega)|(refine cP (by simp only [dW]; omega) ?_)|((first|apply cG|apply cH|apply cF)<;>intro h<;>try simp only [h]))
    refine cQ (by simp) ?_
    have hl:(o.cs.take i).length=i:=by simp; omega
    refine cQ (by rw [hl]; omega) ?_
    refine cP (by simp only [dW]; omega) ?_
    refine ⟨i + 1,?_,by omega,by omega⟩
    have happ:(dl Cs.s (o.cs.take i)).app ((D.st (.cons (.int .i64 x.i) (.cons (.int .i64 x.a) (.cons (.int .i64 x.d) (.cons (.sl false 1 (dl iD x.h)) .nil))))).cons .nil)=dl Cs.s (o.cs.take (i + 1)):=(iM (f:=Cs.s) (o.cs.take i) x).trans (by rw [e7 hr])
    rw [happ]
    exact (cU _ rfl ⟨⟨rfl,rfl⟩,⟨rfl,rfl⟩,⟨rfl,rfl⟩,⟨rfl,rfl⟩,trivial⟩)
   ·intro _ hd
    rw [aI]
    simp only [Off.s,dU,aF,aH]
    repeat' (first|(simp only [cO,hd,cJ,↓wA,↓wC,wB,cL,cK,bP,bQ,bR,reduceIte,reduceCtorEq,aA,bT,dE])|((first|apply cG|apply cH|apply cF)<;>intro h<;>try simp only [h]))
    exact cQ (cX _) (cQ rfl (cQ rfl rfl))
  ·refine ⟨_,h,?_⟩
   simp only [aGb,aF,aH,↓wA,↓wC,wB,cL,cK,bP,bQ,bR,reduceIte,reduceCtorEq,aA,bT,dE]
   refine dR o.cs.length (fun i:Nat=>⟨[(1,.d (.ptr o.s)),(2,.ptr 1 0 []),(3,.ptr 4 0 []),(4,.d (.int .i64 i))],.dead :: .box zO :: ([.dead,.dead] ++ [.box (dU o (.sl true 4 (dl Cs.s (o.cs.take i))) (.sl true 1 (dl D.str o.led)))])⟩) (fun _=>True) ?_ trivial ?_ ?_
   ·exact (cU _ rfl ⟨⟨rfl,rfl⟩,⟨rfl,rfl⟩,⟨rfl,rfl⟩,⟨rfl,rfl⟩,trivial⟩)
   ·intro i hlt _ hd h0
    obtain ⟨x,hr⟩:=dQ hlt
    have h1:Fn prog 84 [.sl false 1 (dl iD x.h)] (fun rs=>rs=[.sl false 1 (dl iD x.h)]):=by
     have h:=fX (u5 x.h (ho.1.2 x (aD hr)))
     simpa [D.unown,dM] using h
    simp only [Off.s,dU,aF,aH]
    repeat' (first|(simp only [cO,hd,h0,c6,aB,hr,aC,cJ,cX,cR,↓iI,aWE,aWC,↓wA,↓wC,wB,cL,cK,bP,bQ,bR,reduceIte,reduceCtorEq,aA,bT,dE])|(refine cP (by simp only [dW]; omega) ?_)|((first|apply cG|apply cH|apply cF)<;>intro h<;>try simp only [h]))
    refine c8 (gI 5 rfl) ?_
    simp only [cL,cK,aWD,↓wA,↓wC,wB,cL,cK,bP,bQ,bR,reduceIte,reduceCtorEq,aA,bT,dE]
    refine eI _ (e8 4 none [1] (es:=4) (xs:=dl Cs.s (o.cs.take i)) rfl rfl) fun v1=>?_
    simp only [dY,Cs.s,Cs.p,cX,cR,cJ,cO,↓wA,↓wC,wB,cL,cK,bP,bQ,bR,reduceIte,reduceCtorEq,aA,bT,dE]
    repeat' (first|(simp only [cO,hd,h0,cJ,cX,cR,cY,↓wA,↓wC,wB,cL,cK,bP,bQ,bR,reduceIte,reduceCtorEq,aA,bT,dE])|(refine dL ?_)|(refine cI h1 rfl rfl ?_)|(with_reducible refine cQ ?_ ?_; focus omega)|(refine cP (by simp only [dW]; omega) ?_)|((first|apply cG|apply cH|apply cF)<;>intro h<;>try simp only [h]))
    refine cQ (by simp) ?_
    have hl:(o.cs.take i).length=i:=by simp; omega
    refine cQ (by rw [hl]; omega) ?_
    refine cP (by simp only [dW]; omega) ?_
    refine ⟨i + 1,?_,by omega,by omega⟩
    have happ:(dl Cs.s (o.cs.take i)).app ((D.st (.cons (.int .i64 x.i) (.cons (.int .i64 x.a) (.cons (.int .i64 x.d) (.cons (.sl false 1 (dl iD x.h)) .nil))))).cons .nil)=dl Cs.s (o.cs.take (i + 1)):=(iM (f:=Cs.s) (o.cs.take i) x).trans (by rw [e7 hr])
    rw [happ]
    exact (cU _ rfl ⟨⟨rfl,rfl⟩,⟨rfl,rfl⟩,⟨rfl,rfl⟩,⟨rfl,rfl⟩,trivial⟩)
   ·intro _ hd
    rw [aI]
    simp only [Off.s,dU,aF,aH]
    repeat' (first|(simp only [cO,hd,cJ,↓wA,↓wC,wB,cL,cK,bP,bQ,bR,reduceIte,reduceCtorEq,aA,bT,dE])|((first|apply cG|apply cH|apply cF)<;>intro h<;>try simp only [h]))
    exact cQ (cX _) (cQ rfl (cQ rfl rfl))
  ·refine ⟨_,h,?_⟩
   simp only [aGb,aF,aH,↓wA,↓wC,wB,cL,cK,bP,bQ,bR,reduceIte,reduceCtorEq,aA,bT,dE]
   refine dR o.cs.length (fun i:Nat=>⟨[(1,.d (.ptr o.s)),(2,.ptr 1 0 []),(3,.ptr 5 0 []),(4,.d (.int .i64 i))],.dead :: .box zO :: ([.dead,.dead,.dead] ++ [.box (dU o (.sl true 4 (dl Cs.s (o.cs.take i))) (.sl true 1 (dl D.str o.led)))])⟩) (fun _=>True) ?_ trivial ?_ ?_
   ·exact (cU _ rfl ⟨⟨rfl,rfl⟩,⟨rfl,rfl⟩,⟨rfl,rfl⟩,⟨rfl,rfl⟩,trivial⟩)
   ·intro i hlt _ hd h0
    obtain ⟨x,hr⟩:=dQ hlt
    have h1:Fn prog 84 [.sl false 1 (dl iD x.h)] (fun rs=>rs=[.sl false 1 (dl iD x.h)]):=by
     have h:=fX (u5 x.h (ho.1.2 x (aD hr)))
     simpa [D.unown,dM] using h
    simp only [Off.s,dU,aF,aH]
    repeat' (first|(simp only [cO,hd,h0,c6,aB,hr,aC,cJ,cX,cR,↓iI,aWE,aWC,↓wA,↓wC,wB,cL,cK,bP,bQ,bR,reduceIte,reduceCtorEq,aA,bT,dE])|(refine cP (by simp only [dW]; omega) ?_)|((first|apply cG|apply cH|apply cF)<;>intro h<;>try simp only [h]))
    refine c8 (gI 6 rfl) ?_
    simp only [cL,cK,aWD,↓wA,↓wC,wB,cL,cK,bP,bQ,bR,reduceIte,reduceCtorEq,aA,bT,dE]
    refine eI _ (e8 5 none [1] (es:=4) (xs:=dl Cs.s (o.cs.take i)) rfl rfl) fun v1=>?_
    simp only [dY,Cs.s,Cs.p,cX,cR,cJ,cO,↓wA,↓wC,wB,cL,cK,bP,bQ,bR,reduceIte,reduceCtorEq,aA,bT,dE]
    repeat' (first|(simp only [cO,hd,h0,cJ,cX,cR,cY,↓wA,↓wC,wB,cL,cK,bP,bQ,bR,reduceIte,reduceCtorEq,aA,bT,dE])|(refine dL ?_)|(refine cI h1 rfl rfl ?_)|(with_reducible refine cQ ?_ ?_; focus omega)|(refine cP (by simp only [dW]; omega) ?_)|((first|apply cG|apply cH|apply cF)<;>intro h<;>try simp only [h]))
    refine cQ (by simp) ?_
    have hl:(o.cs.take i).length=i:=by simp; omega
    refine cQ (by rw [hl]; omega) ?_
    refine cP (by simp only [dW]; omega) ?_
    refine ⟨i + 1,?_,by omega,by omega⟩
    have happ:(dl Cs.s (o.cs.take i)).app ((D.st (.cons (.int .i64 x.i) (.cons (.int .i64 x.a) (.cons (.int .i64 x.d) (.cons (.sl false 1 (dl iD x.h)) .nil))))).cons .nil)=dl Cs.s (o.cs.take (i + 1)):=(iM (f:=Cs.s) (o.cs.take i) x).trans (by rw [e7 hr])
    rw [happ]
    exact (cU _ rfl ⟨⟨rfl,rfl⟩,⟨rfl,rfl⟩,⟨rfl,rfl⟩,⟨rfl,rfl⟩,trivial⟩)
   ·intro _ hd
    rw [aI]
    simp only [Off.s,dU,aF,aH]
    repeat' (first|(simp only [cO,hd,cJ,↓wA,↓wC,wB,cL,cK,bP,bQ,bR,reduceIte,reduceCtorEq,aA,bT,dE])|((first|apply cG|apply cH|apply cF)<;>intro h<;>try simp only [h]))
    exact cQ (cX _) (cQ rfl (cQ rfl rfl))
theorem aIg (o:Off) (k id a v:Int) (ho:o.ok0):Fn prog 128 [o.s,j7 k id a v] (fun rs=>rs=[.bool (m9 o k id a v)]):=by
 have hF:=kO o id ho
 have hid:=iK id 1 999
 have ha:=iK a 1 3
 have hv:=iK v 1 9
 unfold m9
 refine cW aQV [] ?_
 dsimp only [aQV,cT,c7]
 simp only [j7]
 repeat' (first|(simp only [aWv,aWw,aWz,↓dF,cJ,↓wA,↓wC,wB,cL,cK,bP,bQ,bR,reduceIte,reduceCtorEq,aA,bT,dE])|(refine cI hF (by simp [dB,dI,aWu]) rfl ?_)|(refine cI (hid) rfl rfl ?_)|(refine cM (hid) rfl rfl ?_)|(refine cI (ha) rfl rfl ?_)|(refine cM (ha) rfl rfl ?_)|(refine cI (hv) rfl rfl ?_)|(refine cM (hv) rfl rfl ?_)|((first|apply cG|apply cH|apply cF)<;>intro h<;>try simp only [h]))
 all_goals simp_all
theorem aFG (o:Off) (k id a v:Int) (ho:o.ok0) (hb:dW .i64 (o.day + v)):Fn prog 168 [o.s,j7 k id a v] (fun rs=>rs=[Off.w { o with cs:=iQ ⟨id,a,o.day + v,[]⟩ o.cs }]):=by
 have hO:=kD o ho
 have hno:o.w.noOwn=false:=by simp [Off.w,dU,D.noOwn]
 have hwV:o.w.isV=true:=rfl
 have hwS:o.w.size=5:=rfl
 have hlen:=ho.1.1
 refine cW aRg [[1,1,1,1,1,0],[1,1,0],[1,1,0],[1,1,0]] ?_
 dsimp only [aRg,cT,c7]
 simp only [j7]
 repeat' (first|(simp only [aWv,aWw,aWz,hno,hwV,hwS,↓dF,cJ,↓wA,↓wC,wB,cL,cK,bP,bQ,bR,reduceIte,reduceCtorEq,aA,bT,dE])|(refine cI hO (by simp [dB,dI,aWu]) rfl ?_)|((first|apply cG|apply cH|apply cF)<;>intro h<;>try simp only [h]))
 refine c8 (gI 0 rfl) ?_
 simp only [cL,cK,aWu,↓wA,↓wC,wB,cL,cK,bP,bQ,bR,reduceIte,reduceCtorEq,aA,bT,dE]
 refine c8 (gI 1 rfl) ?_
 simp only [cL,cK,D.unown,↓wA,↓wC,wB,cL,cK,bP,bQ,bR,reduceIte,reduceCtorEq,aA,bT,dE]
 refine c8 (freeze 4 none [1] (x:=.sl true 4 (dl Cs.s o.cs)) rfl rfl rfl) ?_
 simp only [dY,Off.w,dU,D.unown,fS,↓wA,↓wC,wB,cL,cK,bP,bQ,bR,reduceIte,reduceCtorEq,aA,bT,dE]
 refine d5 (fun j:Nat=>⟨[(2,.d (.ptr o.s)),(3,.d (.ptr (j7 k id a v))),(4,.ptr 2 0 []),(5,.ptr 4 0 []),(6,.d (.int .i64 j))],[.dead,.dead,.box zO,.dead,.box (dU o (.sl false 4 (dl Cs.s o.cs)) (.sl true 1 (dl D.str o.led)))]⟩) (fun j=>j<=o.cs.length/\∀ m x,m < j->o.cs[m]?=some x->x.i < id) (fun j=>o.cs.length - j) 0 (cU _ rfl ⟨⟨rfl,rfl⟩,⟨rfl,rfl⟩,⟨rfl,rfl⟩,⟨rfl,rfl⟩,⟨rfl,rfl⟩,trivial⟩) ⟨by omega,fun m x hm=>by omega⟩ ?_
 rintro j ⟨hj1,hj2⟩
 simp only [dU,j7]
 have hcm:∀ x:Cs,Cs.s x=x.p (.sl false 1 (dl iD x.h)):=fun _=>rfl
 have hj0:(0:Int)<=(j:Int):=by omega
 by_cases hlt:j < o.cs.length
 ·obtain ⟨x,hr⟩:=dQ hlt
  have hd:decide ((j:Int) < (o.cs.length:Int))=true:=decide_eq_true (by omega)
  cases hx:decide (x.i < id) with
  | true =>
   repeat' (first|(simp only [cJ,cO,c6,hd,hx,hr,hj0,Cs.s,Cs.p,cX,cR,aB,aC,nW,nU,↓wA,↓wC,wB,cL,cK,bP,bQ,bR,reduceIte,reduceCtorEq,aA,bT,dE])|(with_reducible refine cP ?_ ?_; focus (simp only [dW]; omega))|((first|apply cG|apply cH|apply cF)<;>intro h<;>try simp only [h]))
   refine ⟨j + 1,(cU _ rfl ⟨⟨rfl,rfl⟩,⟨rfl,rfl⟩,⟨rfl,rfl⟩,⟨rfl,rfl⟩,⟨rfl,rfl⟩,trivial⟩),⟨by omega,fun m y hm hy=>?_⟩,by omega⟩
   by_cases e:m=j
   ·subst e
    rw [hr] at hy
    injection hy with hy
    rw [<- hy]; exact of_decide_eq_true hx
   ·exact hj2 m y (by omega) hy
  | false =>
   have hpl:q9 id o.cs=j:=rQ o.cs j hj1 hj2 (fun y hy=>by rw [hr] at hy; injection hy with hy; rw [<- hy]; exact of_decide_eq_false hx)
   repeat' (first|(simp only [cJ,cO,c6,hd,hx,hr,hj0,Off.s,dU,Cs.s,Cs.p,cX,cR,aB,aC,nW,nU,↓wA,↓wC,wB,cL,cK,bP,bQ,bR,reduceIte,reduceCtorEq,aA,bT,dE])|(with_reducible refine cP hb ?_)|(with_reducible refine cP ?_ ?_; focus (simp only [dW]; omega))|((first|apply cG|apply cH|apply cF)<;>intro h<;>try simp only [h]))
   refine c8 (gI 7 rfl) ?_
   simp only [cL,cK,D.unown,↓wA,↓wC,wB,cL,cK,bP,bQ,bR,reduceIte,reduceCtorEq,aA,bT,dE]
   repeat' (first|(simp only [cJ,cO,cX,cR,↓wA,↓wC,wB,cL,cK,bP,bQ,bR,reduceIte,reduceCtorEq,aA,bT,dE])|(refine dL ?_)|(with_reducible refine aV ?_ ?_)|(with_reducible refine cP ?_ ?_; focus (simp only [dW]; omega))|((first|apply cG|apply cH|apply cF)<;>intro h<;>try simp only [h]))
   have hs1:(dl Cs.s o.cs).sub 0 j=dl Cs.s (o.cs.take j):=by rw [qB]; rfl
   have hs2:(dl Cs.s o.cs).sub j o.cs.length=dl Cs.s (o.cs.drop j):=by rw [qB,aI]
   have happ:∀ xs:List Cs,(dl Cs.s xs).app (D.cons (D.st (.cons (.int .i64 id) (.cons (.int .i64 a) (.cons (.int .i64 (o.day + v)) (.cons (.sl false 1 .nil) .nil))))) .nil)=dl Cs.s (xs ++ [⟨id,a,o.day + v,[]⟩]):=fun xs=>iM (f:=Cs.s) xs ⟨id,a,o.day + v,[]⟩
   have hen:iQ ⟨id,a,o.day + v,[]⟩ o.cs=(o.cs.take j ++ [⟨id,a,o.day + v,[]⟩]) ++ o.cs.drop j:=by unfold iQ; rw [hpl]; simp
   rw [hen]
   clear hen
   simp only [aB,hs1,hs2,happ,w6,cO,aO,aK,aT,aP,aG hj1]
   repeat' (first|(with_reducible refine aV ?_ ?_)|(with_reducible refine cQ ?_ ?_; focus omega)|(with_reducible refine cQ ?_ ?_; focus (simp; done))|(with_reducible refine cQ ?_ ?_; focus rfl)|rfl)
   all_goals exact cQ rfl (cQ rfl trivial)
 ·have hd:decide ((j:Int) < (o.cs.length:Int))=false:=decide_eq_false (by omega)
  have hpl:q9 id o.cs=j:=rQ o.cs j hj1 hj2 (fun y hy=>by have:=cV hy; omega)
  repeat' (first|(simp only [cJ,cO,c6,hd,hd,hd,hj0,Off.s,dU,Cs.s,Cs.p,cX,cR,aB,aC,nW,nU,↓wA,↓wC,wB,cL,cK,bP,bQ,bR,reduceIte,reduceCtorEq,aA,bT,dE])|(with_reducible refine cP hb ?_)|(with_reducible refine cP ?_ ?_; focus (simp only [dW]; omega))|((first|apply cG|apply cH|apply cF)<;>intro h<;>try simp only [h]))
  refine c8 (gI 7 rfl) ?_
  simp only [cL,cK,D.unown,↓wA,↓wC,wB,cL,cK,bP,bQ,bR,reduceIte,reduceCtorEq,aA,bT,dE]
  repeat' (first|(simp only [cJ,cO,cX,cR,↓wA,↓wC,wB,cL,cK,bP,bQ,bR,reduceIte,reduceCtorEq,aA,bT,dE])|(refine dL ?_)|(with_reducible refine aV ?_ ?_)|(with_reducible refine cP ?_ ?_; focus (simp only [dW]; omega))|((first|apply cG|apply cH|apply cF)<;>intro h<;>try simp only [h]))
  have hs1:(dl Cs.s o.cs).sub 0 j=dl Cs.s (o.cs.take j):=by rw [qB]; rfl
  have hs2:(dl Cs.s o.cs).sub j o.cs.length=dl Cs.s (o.cs.drop j):=by rw [qB,aI]
  have happ:∀ xs:List Cs,(dl Cs.s xs).app (D.cons (D.st (.cons (.int .i64 id) (.cons (.int .i64 a) (.cons (.int .i64 (o.day + v)) (.cons (.sl false 1 .nil) .nil))))) .nil)=dl Cs.s (xs ++ [⟨id,a,o.day + v,[]⟩]):=fun xs=>iM (f:=Cs.s) xs ⟨id,a,o.day + v,[]⟩
  have hen:iQ ⟨id,a,o.day + v,[]⟩ o.cs=(o.cs.take j ++ [⟨id,a,o.day + v,[]⟩]) ++ o.cs.drop j:=by unfold iQ; rw [hpl]; simp
  rw [hen]
  clear hen
  simp only [aB,hs1,hs2,happ,w6,cO,aO,aK,aT,aP,aG hj1]
  repeat' (first|(with_reducible refine aV ?_ ?_)|(with_reducible refine cQ ?_ ?_; focus omega)|(with_reducible refine cQ ?_ ?_; focus (simp; done))|(with_reducible refine cQ ?_ ?_; focus rfl)|rfl)
  all_goals exact cQ rfl (cQ rfl trivial)
def aAJ (v:Int) (h:List Int):List Int:=h.filter fun n=>!decide (n=v)
theorem aH9 {v r:Int} {h:List Int} {k:Nat} (hr:h[k]?=some r):aAJ v (h.take (k + 1))=aAJ v (h.take k) ++ (if r=v then [] else [r]):=by
 rw [e7 hr]
 unfold aAJ
 rw [List.filter_append]
 by_cases e:r=v
 ·simp [e]
 ·simp [e]
theorem aKz {v r:Int} {h:List Int} {k:Nat} (hr:h[k]?=some r):(h.take (k + 1)).contains v=((h.take k).contains v || decide (v=r)):=by
 rw [e7 hr]
 simp [List.contains_eq_any_beq,List.any_append]
theorem aLG (v:Int) (h:List Int):(aAJ v h).length<=h.length:=aZ _ _
theorem aDh (o:Off) (v:Int) (ho:o.ok0):Fn prog 170 [o.s,.int .i64 v] (fun rs=>rs=[Off.w { o with cs:=o.cs.map (tY v) },.bool (vS v o.cs)]):=by
 have hO:=kD o ho
 have hno:o.w.noOwn=false:=by simp [Off.w,dU,D.noOwn]
 have hwV:o.w.isV=true:=rfl
 have hwS:o.w.size=5:=rfl
 have hlen:=ho.1.1
 refine cW aRL [[1,1,0,1,0,0,1,0,0,1,1],[1,1,0,0],[1,1,1,0]] ?_
 dsimp only [aRL,cT,c7]
 repeat' (first|(simp only [aWv,aWw,aWz,hno,hwV,hwS,↓dF,cJ,↓wA,↓wC,wB,cL,cK,bP,bQ,bR,reduceIte,reduceCtorEq,aA,bT,dE])|(refine cI hO (by simp [dB,dI,aWu]) rfl ?_)|((first|apply cG|apply cH|apply cF)<;>intro h<;>try simp only [h]))
 simp only [Off.w,dU]
 refine eI _ (e8 3 none [1] (es:=4) (xs:=dl Cs.s o.cs) rfl rfl) fun v1=>?_
 simp only [dY,cJ,cO,↓wA,↓wC,wB,cL,cK,bP,bQ,bR,reduceIte,reduceCtorEq,aA,bT,dE]
 refine dR o.cs.length (fun i:Nat=>⟨[(1,.d (.int .i64 v)),(4,.ptr 1 0 []),(6,.ptr 3 0 []),(7,.d (.bool (vS v (o.cs.take i)))),(8,.d (.int .i64 i))],[.box o.s,.box zO,.dead,.box (dU o (.lnk 5 v1) (.sl true 1 (dl D.str o.led))),.val (.sl true 4 (dl Cs.s (sX v o.cs i))),.tag 4 v1]⟩) (fun _=>True) ?_ trivial ?_ ?_
 ·exact (cU _ rfl ⟨⟨rfl,rfl⟩,⟨rfl,rfl⟩,⟨rfl,rfl⟩,⟨rfl,rfl⟩,⟨rfl,rfl⟩,trivial⟩)
 ·intro i hlt _ hd h0
  obtain ⟨x,hr⟩:=dQ hlt
  have hg:=aG1 (v:=v) hr
  have hxo:=ho.1.2 x (aD hr)
  have hxl:x.h.length<=1048576:=hxo
  have hxs:Cs.s x=x.p (.sl false 1 (dl iD x.h)):=rfl
  have hgs:∀ (y:D),((dl Cs.s (sX v o.cs i)).setN i y).nth i=some y:=fun y=>by rw [oD,if_pos rfl,c6,hg]; rfl
  have hgn:(dl Cs.s (sX v o.cs i)).nth i=some (x.p (.sl false 1 (dl iD x.h))):=by rw [c6,hg]; rfl
  have hx:=aEx (v:=v) hr
  simp only [dU]
  repeat' (first|(simp only [cO,mY,hd,h0,cJ,↓wA,↓wC,wB,cL,cK,bP,bQ,bR,reduceIte,reduceCtorEq,aA,bT,dE])|((first|apply cG|apply cH|apply cF)<;>intro h<;>try simp only [h]))
  refine dR x.h.length (fun k:Nat=>⟨[(1,.d (.int .i64 v)),(4,.ptr 1 0 []),(6,.ptr 3 0 []),(7,.d (.bool (vS v (o.cs.take i) || (x.h.take k).contains v))),(8,.d (.int .i64 i)),(9,.own 6),(10,.d (.int .i64 k))],[.box o.s,.box zO,.dead,.box (dU o (.lnk 5 v1) (.sl true 1 (dl D.str o.led))),.val (.sl true 4 (dl Cs.s (sX v o.cs i))),.tag 4 v1,.val (.sl true 1 (dl iD (aAJ v (x.h.take k))))]⟩) (fun _=>True) ?_ trivial ?_ ?_
  ·rw [bH,show ([]:List Int).contains v=false from rfl,a6]
   exact (cU _ rfl ⟨⟨rfl,rfl⟩,⟨rfl,rfl⟩,⟨rfl,rfl⟩,⟨rfl,rfl⟩,⟨rfl,rfl⟩,⟨rfl,rfl⟩,⟨rfl,rfl⟩,trivial⟩)
  ·intro k hk _ hkd hk0
   obtain ⟨r,hkr⟩:=dQ hk
   have hlx:=aH9 (v:=v) hkr
   have hhx:=aKz (v:=v) hkr
   simp only [dU]
   cases hrv:decide (r=v) with
   | true =>
    have hrv':=of_decide_eq_true hrv
    rw [if_pos hrv',bD] at hlx
    rw [decide_eq_true hrv'.symm,bA] at hhx
    repeat' (first|(simp only [cO,mY,hd,h0,hkd,hk0,hrv,hgn,c6,hkr,aB,aC,eJ,cY,cJ,fM,eK,eR,↓wA,↓wC,wB,cL,cK,bP,bQ,bR,reduceIte,reduceCtorEq,aA,bT,dE])|(with_reducible refine cP ?_ ?_; focus (simp only [dW]; omega))|((first|apply cG|apply cH|apply cF)<;>intro h<;>try simp only [h]))
    refine ⟨k + 1,?_,by omega,by omega⟩
    rw [hlx,hhx,bA]
    exact (cU _ rfl ⟨⟨rfl,rfl⟩,⟨rfl,rfl⟩,⟨rfl,rfl⟩,⟨rfl,rfl⟩,⟨rfl,rfl⟩,⟨rfl,rfl⟩,⟨rfl,rfl⟩,trivial⟩)
   | false =>
    have hrv':=of_decide_eq_false hrv
    rw [if_neg hrv'] at hlx
    rw [decide_eq_false (fun e=>hrv' e.symm),a6] at hhx
    repeat' (first|(simp only [cO,mY,hd,h0,hkd,hk0,hrv,hgn,c6,hkr,aB,aC,eJ,cY,cJ,fM,eK,eR,↓wA,↓wC,wB,cL,cK,bP,bQ,bR,reduceIte,reduceCtorEq,aA,bT,dE])|(with_reducible refine cP ?_ ?_; focus (simp only [dW]; omega))|((first|apply cG|apply cH|apply cF)<;>intro h<;>try simp only [h]))
    have hll:=aLG v (x.h.take k)
    have hlt2:(x.h.take k).length<=k:=by simp; omega
    refine cQ (by simp) ?_
    refine cQ (by omega) ?_
    refine cP (by simp only [dW]; omega) ?_
    have happ:(dl iD (aAJ v (x.h.take k))).app (D.cons (.int .i64 r) .nil)=dl iD (aAJ v (x.h.take (k + 1))):=(iM (f:=iD) _ r).trans (by rw [hlx])
    rw [happ]
    refine ⟨k + 1,?_,by omega,by omega⟩
    rw [hhx]
    exact (cU _ rfl ⟨⟨rfl,rfl⟩,⟨rfl,rfl⟩,⟨rfl,rfl⟩,⟨rfl,rfl⟩,⟨rfl,rfl⟩,⟨rfl,rfl⟩,⟨rfl,rfl⟩,trivial⟩)
  ·intro _ hkd
   rw [aI]
   simp only [dU]
   repeat' (first|(simp only [cO,mY,hd,h0,hkd,hgn,c6,aB,aC,cY,cJ,fM,eK,eR,↓wA,↓wC,wB,cL,cK,bP,bQ,bR,reduceIte,reduceCtorEq,aA,bT,dE])|((first|apply cG|apply cH|apply cF)<;>intro h<;>try simp only [h]))
   refine c8 (aH6 6 rfl) ?_
   simp only [w8,tU,D.unown,dM,↓wA,↓wC,wB,cL,cK,bP,bQ,bR,reduceIte,reduceCtorEq,aA,bT,dE]
   repeat' (first|(simp only [cO,mY,hd,h0,hgn,hgs,eL,c6,aB,aC,cY,cJ,fM,eK,eR,↓wA,↓wC,wB,cL,cK,bP,bQ,bR,reduceIte,reduceCtorEq,aA,bT,dE])|(with_reducible refine cP ?_ ?_; focus (simp only [dW]; omega))|((first|apply cG|apply cH|apply cF)<;>intro h<;>try simp only [h]))
   have e:x.p (.sl false 1 (dl iD (aAJ v x.h)))=Cs.s (tY v x):=rfl
   rw [e,gV,aB4 hr]
   refine ⟨i + 1,?_,by omega,by omega⟩
   rw [hx]
   exact (cU _ rfl ⟨⟨rfl,rfl⟩,⟨rfl,rfl⟩,⟨rfl,rfl⟩,⟨rfl,rfl⟩,⟨rfl,rfl⟩,trivial⟩)
 ·intro _ hd
  have er:sX v o.cs o.cs.length=o.cs.map (tY v):=by simp [sX]
  rw [er,aI]
  simp only [dU]
  repeat' (first|(simp only [cO,aR,hd,cJ,↓wA,↓wC,wB,cL,cK,bP,bQ,bR,reduceIte,reduceCtorEq,aA,bT,dE])|((first|apply cG|apply cH|apply cF)<;>intro h<;>try simp only [h]))
  refine c8 (gB 3 5 4 none [1] rfl rfl rfl rfl (by decide) rfl) ?_
  simp only [dY,↓wA,↓wC,wB,cL,cK,bP,bQ,bR,reduceIte,reduceCtorEq,aA,bT,dE]
  repeat' (first|(simp only [cR,cJ,↓wA,↓wC,wB,cL,cK,bP,bQ,bR,reduceIte,reduceCtorEq,aA,bT,dE])|((first|apply cG|apply cH|apply cF)<;>intro h<;>try simp only [h]))
  exact cQ rfl (cQ rfl trivial)
theorem aNo (v:List Int) (p:Int) (hlen:v.length<=1048576) (hp:p ∉ v):Fn prog 169 [.sl false 1 (dl iD v),.int .i64 p] (fun rs=>rs=[.sl true 1 (dl iD (kQ p v))]):=by
 refine cW aQM [] ?_
 dsimp only [aQM,cT,c7]
 simp only [↓wA,↓wC,wB,cL,cK,bP,bQ,bR,reduceIte,reduceCtorEq,aA,bT]
 refine d5 (fun k:Nat=>⟨[(0,.d (.sl false 1 (dl iD v))),(1,.d (.int .i64 p)),(5,.d (.int .i64 k))],[]⟩) (fun k=>k<=v.length/\∀ m x,m < k->v[m]?=some x->x < p) (fun k=>v.length - k) 0 (cU _ rfl ⟨⟨rfl,rfl⟩,⟨rfl,rfl⟩,⟨rfl,rfl⟩,trivial⟩) ⟨by omega,fun m x hm _=>by omega⟩ ?_
 rintro k ⟨hk,hinv⟩
 have h0:(0:Int)<=(k:Int):=by omega
 have hs1:(dl iD v).sub 0 k=dl iD (v.take k):=by rw [qB]; rfl
 have hs2:(dl iD v).sub k v.length=dl iD (v.drop k):=by rw [qB,aI]
 have hs3:(dl iD v).sub v.length v.length=dl iD (v.drop v.length):=by rw [qB,aI]
 have hs4:(dl iD v).sub 0 v.length=dl iD (v.take v.length):=by rw [qB]; rfl
 by_cases hlt:k < v.length
 ·obtain ⟨x,hx⟩:=dQ hlt
  have hd:decide ((k:Int) < (v.length:Int))=true:=decide_eq_true (by omega)
  cases hc:decide (x < p) with
  | true =>
   repeat' (first|(simp only [cO,hd,h0,hc,c6,aB,hx,aC,eJ,cJ,↓wA,↓wC,wB,cL,cK,bP,bQ,bR,reduceIte,reduceCtorEq,aA,bT])|(with_reducible refine cP ?_ ?_; focus (simp only [dW]; omega))|((first|apply cG|apply cH|apply cF)<;>intro h<;>try simp only [h]))
   refine ⟨k + 1,(cU _ rfl ⟨⟨rfl,rfl⟩,⟨rfl,rfl⟩,⟨rfl,rfl⟩,trivial⟩),⟨by omega,fun m z hm hz=>?_⟩,by omega⟩
   by_cases e:m=k
   ·subst e
    rw [hx] at hz
    injection hz with hz
    rw [<- hz]
    exact of_decide_eq_true hc
   ·exact hinv m z (by omega) hz
  | false =>
   have hpos:=aFd v k hk hinv (fun z hz=>by
    rw [hx] at hz
    injection hz with hz
    rw [<- hz]
    exact of_decide_eq_false hc)
   have hne:decide (x=p)=false:=decide_eq_false (fun e=>hp (e ▸ aD hx))
   rw [kQ,hpos]
   repeat' (first|(simp only [cO,hd,h0,hc,hne,c6,aB,hx,aC,eJ,cJ,↓wA,↓wC,wB,cL,cK,bP,bQ,bR,reduceIte,reduceCtorEq,aA,bT])|(refine dL ?_)|(with_reducible refine aV ?_ ?_)|(with_reducible refine cQ ?_ ?_; focus omega)|(with_reducible refine cQ ?_ ?_; focus (simp; done))|(with_reducible refine cQ ?_ ?_; focus (simp; omega))|(with_reducible refine cP ?_ ?_; focus (simp only [dW]; omega))|((first|apply cG|apply cH|apply cF)<;>intro h<;>try simp only [h]))
   all_goals
    simp only [hs1,hs2,gD,w6,cO,aO,aK,aT,aP,aG hk]
    repeat' (first|(with_reducible refine cQ ?_ ?_; focus omega)|(with_reducible refine cQ ?_ ?_; focus (simp; done)))
    all_goals simp [aW]
 ·have hd:decide ((k:Int) < (v.length:Int))=false:=decide_eq_false (by omega)
  have e:k=v.length:=by omega
  have hpos:=aFd v k hk hinv (fun z hz=>absurd (cV hz) (by omega))
  rw [kQ,hpos]
  subst e
  repeat' (first|(simp only [cO,hd,h0,aB,eJ,cJ,↓wA,↓wC,wB,cL,cK,bP,bQ,bR,reduceIte,reduceCtorEq,aA,bT])|(refine dL ?_)|(with_reducible refine aV ?_ ?_)|(with_reducible refine cQ ?_ ?_; focus omega)|(with_reducible refine cQ ?_ ?_; focus (simp; done))|(with_reducible refine cQ ?_ ?_; focus (simp; omega))|(with_reducible refine cP ?_ ?_; focus (simp only [dW]; omega))|((first|apply cG|apply cH|apply cF)<;>intro h<;>try simp only [h]))
  all_goals
   simp only [hs3,hs4,gD,w6,cO,aO,aK,aT,aP,aG hk]
   repeat' (first|(with_reducible refine cQ ?_ ?_; focus omega)|(with_reducible refine cQ ?_ ?_; focus (simp; done)))
   all_goals simp [aW]
end Go.Pe.Tryz
