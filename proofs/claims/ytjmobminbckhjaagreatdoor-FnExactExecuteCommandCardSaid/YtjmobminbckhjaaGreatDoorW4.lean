/- Marks on lists of appeals, walked; Marks on appeals, read again; copies of one's own, walked; Sorting of a few numbers, walked; Steps of an office, as plain lists: the program's road and the reference's agree; Steps of an office: copies, walked; Steps of an office: a hold is released; walked; Steps of an office: a case is dealt with; walked; Steps of an office: a step with a case; walked; Steps of an office: a step; walked; Steps of an office: the program's StepOffice; walked; Runs of steps of an office: the program's RunOffice; walked; Steps of an office: the reference's own copy; walked; Steps of an office: the reference's l25Step, l25Enter; walked; Steps of an office: the reference's l25Release; walked; A party heard, walked; A party heard as the reference has it, walked -/
import Derived.Test.YtjmobminbckhjaaGreatDoorW3
import Derived.Test.YtjmobminbckhjaaGreatDoorW2
import Derived.Test.YtjmobminbckhjaaGreatDoorPeD
import Derived.Test.YtjmobminbckhjaaGreatDoorMc1
import Derived.Test.YtjmobminbckhjaaGreatDoorMc2
import Derived.Test.YtjmobminbckhjaaGreatDoorMc3
import Derived.Test.YtjmobminbckhjaaGreatDoorMc4
import Derived.Test.YtjmobminbckhjaaGreatDoorMc5
import Derived.Test.YtjmobminbckhjaaGreatDoorMc6
import Derived.Test.YtjmobminbckhjaaGreatDoorMc7
import Derived.Test.YtjmobminbckhjaaGreatDoorMc8
set_option maxRecDepth 100000
set_option maxHeartbeats 4000000
set_option linter.all false
open And renaming intro->aV
open Bool renaming and_eq_true->aE, or_false->a6, or_true->bA
open Int renaming toNat_natCast->aB
open List renaming mem_of_getElem?->aD, cons_append->aF, nil_append->aH, take_length->aI, length_take->aK, set_append_right->aM, length_eq_zero_iff->aN, length_append->aO, length_singleton->aP, length_map->aR, length_drop->aT, contains_iff_mem->aU, append_assoc->aW, map_map->aX, mem_map->aY, length_filter_le->aZ, filter_eq_self->a7, set_cons_zero->a8, all_eq_true->bC, append_nil->bD, nodup_cons->bE, map_append->bF, mem_append->bG, take_zero->bH, map_take->bJ, map_drop->bK, map_nil->bL
open Nat renaming reduceBEq->aA, min_eq_left->aG, sub_self->aS, le_refl->bM, reduceEqDiff->bP, reduceAdd->bQ, reduceSub->bR, reduceLT->bT
open Option renaming map_some->aC, getD_some->aJ, bind_some->aL, filter->aQ, isSome_some->bB
namespace Go.Pe.Tryz
open Go.Proofs.Tryz
def App.p (x:App) (da dh:D):D:=.st (.cons (.int .i64 x.i) (.cons (.int .i64 x.q) (.cons (.int .i64 x.d) (.cons da (.cons dh (.cons (.int .i64 x.s) .nil))))))
def App.o (x:App):D:=x.p (.sl true 1 (dl iD x.a)) (.sl true 1 (dl iD x.h))
theorem aKI {α:Type} {xs:List α} {i:Nat} {r:α} (hr:xs[i]?=some r):xs.take (i + 1)=xs.take i ++ [r]:=by
 have hi:=cV hr
 rw [List.take_succ_eq_append_getElem hi]
 rw [List.getElem?_eq_getElem hi] at hr
 injection hr with hr
 rw [hr]
theorem App.o_unown (x:App):x.o.unown=x.d':=by simp [App.o,App.p,App.d',D.unown,dM]
theorem App.o_own (x:App):x.o.allOwn=true:=by simp [App.o,App.p,D.allOwn,mJ vB]
theorem App.o_noOwn (x:App):x.o.noOwn=false:=by simp [App.o,App.p,D.noOwn]
theorem App.o_isV (x:App):x.o.isV=true:=rfl
theorem App.o_size (x:App):x.o.size=6:=rfl
theorem aKb (v:List Int) (hlen:v.length<=1048576):Fn prog 102 [.sl false 1 (dl iD v)] (fun rs=>rs=[.sl true 1 (dl iD v)]):=by
 refine cW aQ8 [] ?_
 dsimp only [aQ8,cT,c7]
 simp only [↓wA,↓wC,wB,cL,cK,bP,bQ,bR,reduceIte,reduceCtorEq,aA,bT]
 refine aIG (fun h=>?_) ?_
 ·rw [cO] at h
  have e:v=[]:=aN.1 h
  subst e
  simp only [↓wA,↓wC,wB,bP,reduceIte,reduceCtorEq]
  refine lM 1 ?_
  rfl
 ·simp only [cO,↓wA,↓wC,wB,bP,reduceIte,reduceCtorEq]
  refine cQ ⟨by omega,by omega⟩ ?_
  simp only [↓wA,↓wC,wB,reduceIte,reduceCtorEq]
theorem aF6 (a:Int):Fn prog 258 [.int .i64 a] (fun rs=>rs=[.bool false]):=by
 refine cW aRi [] ?_
 dsimp only [aRi,cT,c7]
 simp only [↓wA,↓wC,wB,cL,cK,bP,bQ,bR,reduceIte,reduceCtorEq,aA,bT]
theorem pX (a b:Int):Fn prog 238 [.int .i64 a,.int .i64 b] (fun rs=>rs=[.bool (decide (a < b))]):=by
 have h1:=aF6 a
 have h2:=aF6 b
 refine cW aQZ [] ?_
 dsimp only [aQZ,cT,c7]
 repeat' (first|(simp only [↓wA,↓wC,wB,cL,cK,bP,bQ,bR,reduceIte,reduceCtorEq,aA,bT])|(refine cI (h1) rfl rfl ?_)|(refine cM (h1) rfl rfl ?_)|(refine cI (h2) rfl rfl ?_)|(refine cM (h2) rfl rfl ?_)|((first|apply cG|apply cH|apply cF)<;>intro h<;>try simp only [h]))
def aEI (n:Nat):Int:=[0,1,2,2,3,3,3,3].getD n 0
theorem aNm (n:Nat) (h:n<=7):Fn prog 242 [.int .u64 n] (fun rs=>rs=[.int .i64 (aEI n)]):=by
 have h1:decide ((4294967296:Int)<=(n:Int))=false:=decide_eq_false (by omega)
 have h2:decide ((65536:Int)<=(n:Int))=false:=decide_eq_false (by omega)
 have h3:decide ((256:Int)<=(n:Int))=false:=decide_eq_false (by omega)
 have h8:n=0\/n=1\/n=2\/n=3\/n=4\/n=5\/n=6\/n=7:=by omega
 refine cW aRy [] ?_
 dsimp only [aRy,cT,c7]
 repeat' (first|(simp only [cJ,h1,h2,h3,↓wA,↓wC,wB,cL,cK,bP,bQ,bR,reduceIte,reduceCtorEq,aA,bT])|(with_reducible refine cP ?_ ?_; focus (simp only [dX]; omega))|((first|apply cG|apply cH|apply cF)<;>intro h<;>try simp only [h]))
 rcases h8 with rfl|rfl|rfl|rfl|rfl|rfl|rfl|rfl
 all_goals
  refine cQ (by decide) ?_
  refine ⟨_,rfl,?_⟩
  refine cP (by simp only [dX]; decide) ?_
  simp only [↓wA,↓wC,wB,cL,cK,bP,bQ,bR,reduceIte,reduceCtorEq,aA,bT]
  refine cP (by simp only [dX]; decide) ?_
  simp only [↓wA,↓wC,wB,cL,cK,bP,bQ,bR,reduceIte,reduceCtorEq,aA,bT]
  rfl
def pos (p:Int):List Int->Nat
 | []=>0
 | a :: t=>if a < p then pos p t + 1 else 0
def kS (p:Int) (v:List Int):List Int:=v.take (pos p v) ++ p :: v.drop (pos p v)
theorem aEE {p:Int}:∀ (v:List Int) (j:Nat),j<=v.length->(∀ m x,m < j->v[m]?=some x->x < p)->(∀ x,v[j]?=some x->¬ x < p)->pos p v=j
 | [],j,h,_,_=>by
  simp at h
  subst h
  rfl
 | a :: t,0,_,_,h3=>by
  rw [pos,if_neg (h3 a rfl)]
 | a :: t,j + 1,h,h2,h3=>by
  rw [pos,if_pos (h2 0 a (by omega) rfl),aEE t j (by simpa using h) (fun m x hm hx=>h2 (m + 1) x (by omega) (by simpa using hx)) (fun x hx=>h3 x (by simpa using hx))]
def aDI (v:List Int):Prop:=∀ j a b,v[j]?=some a->v[j + 1]?=some b->a < b
theorem aB6 {v:List Int} (h:aDI v):∀ (k m:Nat) (a b:Int),m < k->v[m]?=some a->v[k]?=some b->a < b
 | 0,m,a,b,hm,_,_=>by omega
 | k + 1,m,a,b,hm,ha,hb=>by
  by_cases e:m=k
  ·subst e; exact h m a b ha hb
  ·obtain ⟨c,hc⟩:=dP (show k < v.length by have:=cV hb; omega)
   have h1:=aB6 h k m a c (by omega) ha hc
   have h2:=h k c b hc hb
   omega
def mv (p:Int) (v:List Int) (j:Nat):List Int:=v.take j ++ p :: v.drop j
theorem aSJ {p:Int} {v:List Int} {j:Nat} (h:j<=v.length):(mv p v j).length=v.length + 1:=by simp [mv]; omega
theorem aV8 {p:Int} {v:List Int}:mv p v v.length=v ++ [p]:=by simp [mv]
theorem aUq {p:Int} {v:List Int} {j:Nat} (h:j<=v.length):(mv p v j)[j]?=some p:=by
 rw [mv,List.getElem?_append_right (by simp; omega),aK,aG h,aS]; rfl
theorem aVs {p x:Int} {v:List Int} {k:Nat} (h:v[k]?=some x):(mv p v (k + 1))[k]?=some x:=by
 have hk:=cV h
 rw [mv,List.getElem?_append_left (by simp; omega),List.getElem?_take_of_lt (by omega)]
 exact h
theorem aOe {p x:Int} {v:List Int} {k:Nat} (h:v[k]?=some x):((mv p v (k + 1)).set (k + 1) x).set k p=mv p v k:=by
 have hk:=cV h
 rw [mv,aKI h,mv,aKa h,aW]
 have hl:(v.take k).length=k:=by simp; omega
 rw [aM _ _ (by omega),hl,show k + 1 - k=1 by omega,aM _ _ (by omega),hl,aS]
 rfl
theorem aHU (p:Int) (v:List Int) (hr:aDI v) (hp:p ∉ v) (hlen:v.length<=6):xR prog 232 false (.sl true 1 (dl iD (v ++ [p]))) [.int .i64 0,.int .i64 (v.length + 1)] (fun x' rs=>x'=.sl true 1 (dl iD (kS p v))/\rs=[]):=by
 have hput:∀ j,j<=v.length->(∀ m x,m < j->v[m]?=some x->x < p)->(∀ x,v[j]?=some x->¬ x < p)->mv p v j=kS p v:=fun j h1 h2 h3=>by rw [kS,aEE v j h1 h2 h3,mv]
 have hnp:∀ {m x:_},v[m]?=some x->x≠p:=fun {m x} h e=>hp (e ▸ aD h)
 refine jV aRO [] ?_
 dsimp only [aRO,cT,c7]
 simp only [cO,↓wA,↓wC,wB,cL,cK,bP,bQ,bR,reduceIte,reduceCtorEq,aA,bT]
 refine cP (by simp only [dX]; omega) ?_
 refine dZ (fun i:Nat=>⟨[(0,.own 0),(1,.d (.int .i64 0)),(2,.d (.int .i64 (v.length + 1))),(6,.d (.int .i64 i))],[.val (.sl true 1 (dl iD (if i<=v.length then v ++ [p] else kS p v)))]⟩) (fun i=>1<=i/\i<=v.length + 1) (fun i=>v.length + 1 - i) 1 ?_ ⟨by omega,by omega⟩ ?_
 ·have e:(if 1<=v.length then v ++ [p] else kS p v)=v ++ [p]:=by
   split
   ·rfl
   ·rename_i h
    have h0:v.length=0:=by omega
    have e:v=[]:=aN.1 h0
    subst e
    rfl
  rw [e]
  exact (cU _ rfl ⟨⟨rfl,rfl⟩,⟨rfl,rfl⟩,⟨rfl,rfl⟩,⟨rfl,rfl⟩,trivial⟩)
 rintro i ⟨hi1,hi2⟩
 by_cases hin:i=v.length + 1
 ·subst hin
  have hd:decide (((v.length + 1:Nat):Int) < (v.length:Int) + 1)=false:=decide_eq_false (by omega)
  rw [if_neg (by omega)]
  simp only [hd,↓wA,↓wC,wB,cL,cK,bP,bQ,bR,reduceIte,reduceCtorEq,aA,bT]
 ·have hd:decide ((i:Int) < (v.length:Int) + 1)=true:=decide_eq_true (by omega)
  rw [if_pos (by omega)]
  by_cases hlt:i < v.length
  ·obtain ⟨k,rfl⟩:∃ k,i=k + 1:=⟨i - 1,by omega⟩
   obtain ⟨y,hy⟩:=dP hlt
   obtain ⟨x,hx⟩:=dP (show k < v.length by omega)
   have hxy:=hr k x y hx hy
   have h1:decide (0 < ((k + 1:Nat):Int))=true:=decide_eq_true (by omega)
   have h2:decide (y < x)=false:=decide_eq_false (by omega)
   have hn1:(((k + 1:Nat):Int) - 1).toNat=k:=by omega
   have h0:(0:Int)<=((k + 1:Nat):Int):=by omega
   have h0':(0:Int)<=((k + 1:Nat):Int) - 1:=by omega
   have hg1:(v ++ [p])[k + 1]?=some y:=by rw [List.getElem?_append_left hlt]; exact hy
   have hg2:(v ++ [p])[k]?=some x:=by rw [List.getElem?_append_left (by omega)]; exact hx
   simp only [hd,↓wA,↓wC,wB,bP,reduceIte,reduceCtorEq]
   refine dZ (fun _:Unit=>⟨[(0,.own 0),(1,.d (.int .i64 0)),(2,.d (.int .i64 (v.length + 1))),(6,.d (.int .i64 ((k + 1:Nat):Int))),(7,.d (.int .i64 ((k + 1:Nat):Int)))],[.val (.sl true 1 (dl iD (v ++ [p])))]⟩) (fun _=>True) (fun _=>0) () (cU _ rfl ⟨⟨rfl,rfl⟩,⟨rfl,rfl⟩,⟨rfl,rfl⟩,⟨rfl,rfl⟩,⟨rfl,rfl⟩,trivial⟩) trivial ?_
   rintro _ _
   repeat' (first|(simp only [cO,e9,h1,h2,hn1,h0,h0',c6,hg1,hg2,aC,cJ,aB,aB8,aBt,yZ,↓wA,↓wC,wB,bP,reduceIte,reduceCtorEq])|(refine cI (pX y x) rfl rfl ?_)|(refine cM (pX y x) rfl rfl ?_)|(refine cM (pX _ _) rfl rfl ?_)|(with_reducible refine cP ?_ ?_; focus (simp only [dX]; omega))|((first|apply cG|apply cH|apply cF)<;>intro h<;>try simp only [h]))
   refine ⟨k + 1 + 1,?_,⟨by omega,by omega⟩,by omega⟩
   rw [if_pos (by omega)]
   exact (cU _ rfl ⟨⟨rfl,rfl⟩,⟨rfl,rfl⟩,⟨rfl,rfl⟩,⟨rfl,rfl⟩,trivial⟩)
  ·have e:i=v.length:=by omega
   subst e
   simp only [hd,↓wA,↓wC,wB,cL,cK,bP,bQ,bR,reduceIte,reduceCtorEq,aA,bT]
   refine dZ (fun j:Nat=>⟨[(0,.own 0),(1,.d (.int .i64 0)),(2,.d (.int .i64 (v.length + 1))),(6,.d (.int .i64 (v.length:Int))),(7,.d (.int .i64 j))],[.val (.sl true 1 (dl iD (mv p v j)))]⟩) (fun j=>j<=v.length/\∀ x,v[j]?=some x->¬ x < p) (fun j=>j) v.length ?_ ⟨bM _,fun x hx=>absurd (cV hx) (by omega)⟩ ?_
   ·rw [aV8]; exact (cU _ rfl ⟨⟨rfl,rfl⟩,⟨rfl,rfl⟩,⟨rfl,rfl⟩,⟨rfl,rfl⟩,⟨rfl,rfl⟩,trivial⟩)
   rintro j ⟨hj,hjx⟩
   cases j with
   | zero =>
    have hf:=hput 0 hj (fun m x hm _=>by omega) hjx
    have h1:decide (0 < ((0:Nat):Int))=false:=rfl
    repeat' (first|(simp only [h1,↓wA,↓wC,wB,bP,reduceIte,reduceCtorEq])|(with_reducible refine cP ?_ ?_; focus (simp only [dX]; omega))|((first|apply cG|apply cH|apply cF)<;>intro h<;>try simp only [h]))
    refine ⟨v.length + 1,?_,⟨by omega,by omega⟩,by omega⟩
    rw [if_neg (by omega),<-hf]
    exact (cU _ rfl ⟨⟨rfl,rfl⟩,⟨rfl,rfl⟩,⟨rfl,rfl⟩,⟨rfl,rfl⟩,trivial⟩)
   | succ k =>
    obtain ⟨x,hx⟩:=dP (show k < v.length by omega)
    have hne:=hnp hx
    have h1:decide (0 < ((k + 1:Nat):Int))=true:=decide_eq_true (by omega)
    have hn1:(((k + 1:Nat):Int) - 1).toNat=k:=by omega
    have h0:(0:Int)<=((k + 1:Nat):Int):=by omega
    have h0':(0:Int)<=((k + 1:Nat):Int) - 1:=by omega
    have hg1:=aUq (p:=p) hj
    have hg2:=aVs (p:=p) hx
    have hml:=aSJ (p:=p) hj
    have hs1:((dl iD (mv p v (k + 1))).setN (k + 1) (.int .i64 x))=dl iD ((mv p v (k + 1)).set (k + 1) x):=gV (f:=iD) _ _ x
    have hs2:((dl iD ((mv p v (k + 1)).set (k + 1) x)).setN k (.int .i64 p))=dl iD (mv p v k):=(gV (f:=iD) _ _ p).trans (by rw [aOe hx])
    have hg3:((mv p v (k + 1)).set (k + 1) x)[k]?=some x:=by rw [List.getElem?_set_ne (by omega)]; exact hg2
    cases hc:decide (p < x) with
    | false =>
     have hf:=hput (k + 1) hj (fun m z hm hz=>by
      have hc':=of_decide_eq_false hc
      by_cases e:m=k
      ·subst e
       rw [hx] at hz
       injection hz with hz
       omega
      ·have:=aB6 hr k m z x (by omega) hz hx
       omega) hjx
     repeat' (first|(simp only [cO,e9,hml,h1,hc,hn1,h0,h0',c6,hg1,hg2,aC,cJ,aB,aB8,aBt,yZ,↓wA,↓wC,wB,cL,cK,bP,bQ,bR,reduceIte,reduceCtorEq,aA,bT])|(refine cM (pX _ _) rfl rfl ?_)|(with_reducible refine cP ?_ ?_; focus (simp only [dX]; omega))|((first|apply cG|apply cH|apply cF)<;>intro h<;>try simp only [h]))
     refine ⟨v.length + 1,?_,⟨by omega,by omega⟩,by omega⟩
     rw [if_neg (by omega),<-hf]
     exact (cU _ rfl ⟨⟨rfl,rfl⟩,⟨rfl,rfl⟩,⟨rfl,rfl⟩,⟨rfl,rfl⟩,trivial⟩)
    | true =>
     repeat' (first|(simp only [cO,e9,hml,h1,hc,hn1,h0,h0',c6,hg1,hg2,hg3,hs1,hs2,lX,List.length_set,aC,cJ,aB,aB8,aBt,yZ,↓wA,↓wC,wB,cL,cK,bP,bQ,bR,reduceIte,reduceCtorEq,aA,bT])|(refine cM (pX _ _) rfl rfl ?_)|(refine dL ?_)|(with_reducible refine cP ?_ ?_; focus (simp only [dX]; omega))|((first|apply cG|apply cH|apply cF)<;>intro h<;>try simp only [h]))
     rw [show ((k + 1:Nat):Int) - 1=(k:Int) by omega]
     refine ⟨k,(cU _ rfl ⟨⟨rfl,rfl⟩,⟨rfl,rfl⟩,⟨rfl,rfl⟩,⟨rfl,rfl⟩,⟨rfl,rfl⟩,trivial⟩),⟨by omega,fun z hz=>?_⟩,by omega⟩
     rw [hx] at hz
     injection hz with hz
     have:=of_decide_eq_true hc
     omega
theorem aHC (n:Nat) (h:n<=7):Fn prog 214 [.int .u64 n] (fun rs=>rs=[.int .i64 (aEI n)]):=by
 have h1:=aNm n h
 refine cW aRK [] ?_
 dsimp only [aRK,cT,c7]
 repeat' (first|(simp only [↓wA,↓wC,wB,cL,cK,bP,bQ,bR,reduceIte,reduceCtorEq,aA,bT])|(refine cI (h1) rfl rfl ?_)|(refine cM (h1) rfl rfl ?_)|((first|apply cG|apply cH|apply cF)<;>intro h<;>try simp only [h]))
theorem aTs (p:Int) (v:List Int) (m:Int) (hr:aDI v) (hp:p ∉ v) (hlen:v.length<=6):xR prog 213 false (.sl true 1 (dl iD (v ++ [p]))) [.int .i64 0,.int .i64 (v.length + 1),.int .i64 m] (fun x' rs=>x'=.sl true 1 (dl iD (kS p v))/\rs=[]):=by
 have hI:=aHU p v hr hp hlen
 have h12:decide ((v.length:Int) + 1 - 0<=12)=true:=decide_eq_true (by omega)
 refine jV aRD [] ?_
 dsimp only [aRD,cT,c7]
 simp only [↓wA,↓wC,wB,cL,cK,bP,bQ,bR,reduceIte,reduceCtorEq,aA,bT]
 refine dZ (fun _:Unit=>⟨[(0,.own 0),(1,.d (.int .i64 0)),(2,.d (.int .i64 (v.length + 1))),(3,.d (.int .i64 m)),(8,.d (.bool true)),(9,.d (.bool true))],[.val (.sl true 1 (dl iD (v ++ [p])))]⟩) (fun _=>True) (fun _=>0) () (cU _ rfl ⟨⟨rfl,rfl⟩,⟨rfl,rfl⟩,⟨rfl,rfl⟩,⟨rfl,rfl⟩,⟨rfl,rfl⟩,⟨rfl,rfl⟩,trivial⟩) trivial ?_
 rintro _ _
 repeat' (first|(simp only [h12,↓wA,↓wC,wB,bP,bQ,reduceIte,reduceCtorEq])|(refine mQ hI rfl rfl rfl ?_)|(with_reducible refine cP ?_ ?_; focus (simp only [dX]; omega))|((first|apply cG|apply cH|apply cF)<;>intro h<;>try simp only [h]))
theorem aOV (p:Int) (v:List Int) (hr:aDI v) (hp:p ∉ v) (hlen:v.length<=6):xR prog 191 false (.sl true 1 (dl iD (v ++ [p]))) [] (fun x' rs=>x'=.sl true 1 (dl iD (kS p v))/\rs=[]):=by
 have hl:((v.length + 1:Nat):Int)=(v.length:Int) + 1:=by omega
 have hl2:(v ++ [p]).length=v.length + 1:=by simp
 have hB:Fn prog 214 [.int .u64 ((v.length:Int) + 1)] (fun rs=>rs=[.int .i64 (aEI (v.length + 1))]):=aHC (v.length + 1) (by omega)
 have hP:=aTs p v (aEI (v.length + 1)) hr hp hlen
 have hU:dX .u64 ((v.length:Int) + 1):=by
  have h8:v.length=0\/v.length=1\/v.length=2\/v.length=3\/v.length=4\/v.length=5\/v.length=6:=by omega
  rcases h8 with h|h|h|h|h|h|h
  all_goals
   rw [h]
   show IntKind.wrap .u64 _=_
   decide
 refine jV aRb [] ?_
 dsimp only [aRb,cT,c7]
 repeat' (first|(simp only [cO,hl2,hl,↓wA,↓wC,wB,cL,cK,bP,bQ,bR,reduceIte,reduceCtorEq,aA,bT])|(refine cI (hB) rfl rfl ?_)|(refine cM (hB) rfl rfl ?_)|(refine cP hU ?_)|(refine mQ hP rfl rfl rfl ?_)|(with_reducible refine cP ?_ ?_; focus (simp only [dX]; omega))|((first|apply cG|apply cH|apply cF)<;>intro h<;>try simp only [h]))
end Go.Pe.Tryz
namespace Go.Pe.Tryz
def q9 (id:Int):List Cs->Nat
 | []=>0
 | x :: xs=>if x.i < id then q9 id xs + 1 else 0
theorem rT {id:Int}:∀ (xs:List Cs) (j:Nat),j<=xs.length->(∀ m x,m < j->xs[m]?=some x->x.i < id)->(∀ x,xs[j]?=some x->¬ x.i < id)->q9 id xs=j
 | [],j,h,_,_=>by
  simp at h
  subst h
  rfl
 | a :: t,0,_,_,h3=>by
  rw [q9,if_neg (h3 a rfl)]
 | a :: t,j + 1,h,h2,h3=>by
  rw [q9,if_pos (h2 0 a (by omega) rfl),rT t j (by simpa using h) (fun m x hm hx=>h2 (m + 1) x (by omega) (by simpa using hx)) (fun x hx=>h3 x (by simpa using hx))]
def iO (x:Cs) (xs:List Cs):List Cs:=xs.take (q9 x.i xs) ++ x :: xs.drop (q9 x.i xs)
def tU (v:Int) (x:Cs):Cs:={ x with h:=x.h.filter fun n=>!decide (n=v) }
def l8 (id day:Int):List UInt8:=114 :: (Lib.itoa id ++ 32 :: 100 :: Lib.itoa day)
def lJ (o:Off) (i:Nat) (x:Cs):Off :=
 if x.a=1 then { o with cs:=o.cs.eraseIdx i,kept:=o.kept + 1 }
 else if x.a=2 then { o with cs:=o.cs.eraseIdx i,moved:=o.moved + 1 }
 else { o with cs:=o.cs.eraseIdx i,led:=o.led ++ [l8 x.i o.day] }
def eE (o:Off) (x:Cs):Bool:=decide (x.d<=o.day) && (decide (x.a=1) || decide (x.a=2) || decide (x.h.length=0))
def vU (v:Int) (xs:List Cs):Bool:=xs.any fun x=>x.h.contains v
def mkO (o:Off) (k id a v:Int):Option Off :=
 if k=2 then (if 0<=fU o.cs id then none else some { o with cs:=iO ⟨id,a,o.day + v,[]⟩ o.cs })
 else if a≠0 then none
 else if k=1 then (if id=0/\1<=v then some { o with day:=o.day + v } else none)
 else if k=4 then (if id=0/\vU v o.cs=true then some { o with cs:=o.cs.map (tU v) } else none)
 else if 0<=fU o.cs id then
  (match o.cs[(fU o.cs id).toNat]? with
  | some x=>if k=3 then (if x.h.contains v=true then none else some { o with cs:=o.cs.set (fU o.cs id).toNat { x with h:=kS v x.h } })
   else if k=5 then (if 1<=v then some { o with cs:=o.cs.set (fU o.cs id).toNat { x with d:=x.d + v } } else none)
   else if k=6 then (if v=0/\eE o x=true then some (lJ o (fU o.cs id).toNat x) else none)
   else none
  | none=>none)
 else none
def gY (o:Off) (k id a v:Int):Option Off:=if (dO o && dC v 0 20000)=true then (mkO o k id a v).filter dO else none
def m9 (o:Off) (k id a v:Int):Bool :=
 if k=1 then decide (id=0) && decide (a=0) && decide (1<=v)
 else if k=2 then dC id 1 999 && decide (fU o.cs id < 0) && dC a 1 3 && decide (0<=v)
 else if k=3 then decide (0<=fU o.cs id) && decide (a=0) && dC v 1 9
 else if k=4 then decide (id=0) && decide (a=0) && dC v 1 9
 else if k=5 then decide (0<=fU o.cs id) && decide (a=0) && decide (1<=v)
 else decide (k=6) && decide (0<=fU o.cs id) && decide (a=0) && decide (v=0)
def iC (o:Off) (k id a v:Int):Option Off :=
 if k=1 then (if v > 20000 - o.day then none else some { o with day:=o.day + v })
 else if k=2 then (if v > 20000 - o.day then none else some { o with cs:=iO ⟨id,a,o.day + v,[]⟩ o.cs })
 else if k=4 then (if vU v o.cs=true then some { o with cs:=o.cs.map (tU v) } else none)
 else match o.cs[(fU o.cs id).toNat]? with
  | some x=>if k=3 then (if x.h.contains v=true then none else some { o with cs:=o.cs.set (fU o.cs id).toNat { x with h:=kS v x.h } })
   else if k=5 then (if v > 20000 - x.d then none else some { o with cs:=o.cs.set (fU o.cs id).toNat { x with d:=x.d + v } })
   else if eE o x=true then some (lJ o (fU o.cs id).toNat x) else none
  | none=>none
def wH (o:Off) (k id a v:Int):Option Off:=(iC o k id a v).filter dO
def aGj (o:Off) (k id a v:Int):Option Off:=if (dO o && m9 o k id a v)=true then wH o k id a v else none
theorem eK {o:Off} (h:dO o=true):0<=o.day/\o.day<=20000/\o.cs.length<=6/\0<=o.kept/\o.kept<=999/\0<=o.moved/\o.moved<=999/\o.led.length<=8/\(∀ s∈o.led,s.length<=40)/\(∀ x∈o.cs,gN x=true):=by
 have hc:∀ x∈o.cs,gN x=true:=fun x hx=>by
  obtain ⟨i,hi⟩:=List.getElem?_of_mem hx
  exact wS h hi
 simp only [dO,tC,aE,dC,decide_eq_true_eq] at h
 obtain ⟨⟨⟨⟨⟨h1,h2⟩,h3⟩,h4⟩,h5⟩,_⟩:=h
 have hl:o.led.length<=8/\∀ s∈o.led,s.length<=40:=by
  simp only [aCn,Bool.or_eq_true,Bool.not_eq_true',decide_eq_false_iff_not,eM,aE,dC,decide_eq_true_eq,bC,kJ] at h5
  rcases h5 with h5|⟨h5,h6⟩
  ·have:o.led=[]:=aN.1 (by omega)
   rw [this]; simp
  ·exact ⟨by omega,fun s hs=>by have:=(h6 s hs).1; omega⟩
 exact ⟨h1.1,h1.2,by omega,h3.1,h3.2,h4.1,h4.2,hl.1,hl.2,hc⟩
theorem fH {x:Cs} (h:gN x=true):1<=x.i/\x.i<=999/\1<=x.a/\x.a<=3/\0<=x.d/\x.d<=20000/\x.h.length<=5/\(∀ n∈x.h,1<=n/\n<=9)/\oE x.h=true:=by
 simp only [gN,aE,dC,decide_eq_true_eq,bC] at h
 obtain ⟨⟨⟨⟨h1,h2⟩,h3⟩,h4⟩,h5,h6⟩:=h
 exact ⟨h1.1,h1.2,h2.1,h2.2,h3.1,h3.2,by omega,h5,h6⟩
theorem y6 {o:Off} {x:Cs} (hx:x∈o.cs) (h:gN x=false):dO o=false:=by
 cases hh:dO o with
 | false=>rfl
 | true =>
  have:=(eK hh).2.2.2.2.2.2.2.2.2 x hx
  rw [h] at this; cases this
theorem fB {o:Off} (h:dO o=true):o.ok0:=by
 obtain ⟨_,_,h3,_,_,_,_,h8,h9,lA⟩:=eK h
 refine ⟨⟨by omega,fun x hx=>?_⟩,by omega,fun s hs=>by have:=h9 s hs; omega⟩
 have:=(fH (lA x hx)).2.2.2.2.2.2.1
 unfold Cs.ok0; omega
theorem aPJ {o:Off} (h:o.day < 0\/20000 < o.day):dO o=false:=by
 cases hh:dO o with
 | false=>rfl
 | true =>
  have:=eK hh
  omega
theorem aPz (v:Int) (h:List Int):v∈kS v h:=by simp [kS]
theorem aD9 (x:Cs) (xs:List Cs):x∈iO x xs:=by simp [iO]
theorem aBj {α:Type} {xs:List α} {i:Nat} {x y:α} (h:xs[i]?=some x):y∈xs.set i y:=by
 have:=cV h
 exact aD (i:=i) (by rw [List.getElem?_set]; simp [this])
theorem oH {o:Off} (h:dO o=false):(some o).filter dO=none:=by
 simp [aQ,h]
theorem aCr {x:Cs} (h:x.d < 0\/20000 < x.d):gN x=false:=by
 cases hh:gN x with
 | false=>rfl
 | true=>have:=fH hh; omega
theorem aH1 {x:Cs} (h:x.i < 1\/999 < x.i):gN x=false:=by
 cases hh:gN x with
 | false=>rfl
 | true=>have:=fH hh; omega
theorem aIQ {x:Cs} (h:x.a < 1\/3 < x.a):gN x=false:=by
 cases hh:gN x with
 | false=>rfl
 | true=>have:=fH hh; omega
theorem aIF {x:Cs} {v:Int} (hv:v∈x.h) (h:v < 1\/9 < v):gN x=false:=by
 cases hh:gN x with
 | false=>rfl
 | true=>have:=(fH hh).2.2.2.2.2.2.2.1 v hv; omega
theorem aJC {o:Off} {v:Int} (h:dO o=true) (hv:v < 1\/9 < v):vU v o.cs=false:=by
 cases hh:vU v o.cs with
 | false=>rfl
 | true =>
  obtain ⟨x,hx,hc⟩:=List.any_eq_true.1 hh
  have:=(fH ((eK h).2.2.2.2.2.2.2.2.2 x hx)).2.2.2.2.2.2.2.1 v (aU.1 hc)
  omega
theorem jR {n a b:Int} (h1:a<=n) (h2:n<=b):dC n a b=true:=by simp [dC,h1,h2]
theorem aNg (o:Off) (k id a v:Int):aGj o k id a v=gY o k id a v:=by
 unfold aGj gY
 cases ho:dO o with
 | false=>simp
 | true =>
  have hp:=eK ho
  simp only [Bool.true_and]
  unfold wH iC mkO m9
  by_cases k1:k=1
  ·subst k1
   simp only [if_true,show ¬ (1:Int)=2 by decide,if_false]
   by_cases ha:a=0
   ·by_cases hi:id=0/\1<=v
    ·have e1:(decide (id=0) && decide (a=0) && decide (1<=v))=true:=by simp [hi.1,ha,hi.2]
     rw [if_pos e1,if_neg (show ¬ a≠0 from fun h=>h ha),if_pos hi]
     by_cases hv:v > 20000 - o.day
     ·rw [if_pos hv]
      split
      ·rw [oH (aPJ (.inr (by simp only; omega)))]; rfl
      ·rfl
     ·rw [if_neg hv,if_pos (jR (by omega) (by omega))]
    ·have e1:¬ (decide (id=0) && decide (a=0) && decide (1<=v))=true:=by
      simp only [aE,decide_eq_true_eq]
      intro h; exact hi ⟨h.1.1,h.2⟩
     rw [if_neg e1,if_neg (show ¬ a≠0 from fun h=>h ha),if_neg hi]
     simp
   ·have e1:¬ (decide (id=0) && decide (a=0) && decide (1<=v))=true:=by simp [ha]
    rw [if_neg e1,if_pos ha]
    simp
  ·by_cases k2:k=2
   ·subst k2
    simp only [if_true,show ¬ (2:Int)=1 by decide,if_false]
    by_cases hf:0<=fU o.cs id
    ·rw [if_pos hf,if_neg (by simp only [aE,decide_eq_true_eq]; omega)]
     simp
    ·rw [if_neg hf]
     have hm:=aD9 ⟨id,a,o.day + v,[]⟩ o.cs
     by_cases hs:(dC id 1 999 && decide (fU o.cs id < 0) && dC a 1 3 && decide (0<=v))=true
     ·rw [if_pos hs]
      simp only [aE,decide_eq_true_eq] at hs
      by_cases hv:v > 20000 - o.day
      ·rw [if_pos hv]
       split
       ·rw [oH (y6 hm (aCr (.inr (by simp only; omega))))]; rfl
       ·rfl
      ·rw [if_neg hv,if_pos (jR (by omega) (by omega))]
     ·rw [if_neg hs]
      split
      ·rename_i hw
       have hw:=kM.1 hw
       rw [oH]
       simp only [aE,decide_eq_true_eq,kM] at hs
       by_cases q1:1<=id/\id<=999
       ·exact y6 hm (aIQ (by simp only; omega))
       ·exact y6 hm (aH1 (by simp only; omega))
      ·rfl
   ·rw [if_neg k1,if_neg k1,if_neg k2,if_neg k2,if_neg k2,if_neg k1]
    by_cases ha:a=0
    case neg =>
     rw [if_pos ha,if_neg]
     ·simp
     ·split
      ·simp [ha]
      ·split
       ·simp [ha]
       ·split<;>simp [ha]
    rw [if_neg (show ¬ a≠0 from fun h=>h ha)]
    by_cases k4:k=4
    ·subst k4
     simp only [if_true,show ¬ (4:Int)=3 by decide,if_false]
     by_cases hi:id=0
     ·by_cases hv:1<=v/\v<=9
      ·have e1:(decide (id=0) && decide (a=0) && dC v 1 9)=true:=by
        simp only [aE,decide_eq_true_eq,kM]; exact ⟨⟨hi,ha⟩,hv⟩
       rw [if_pos e1,if_pos (jR (by omega) (by omega))]
       cases hh:vU v o.cs with
       | true=>rw [if_pos rfl,if_pos ⟨hi,rfl⟩]
       | false=>rw [if_neg (by decide),if_neg (show ¬ (id=0/\false=true) from fun h=>by cases h.2)]
      ·have e1:¬ (decide (id=0) && decide (a=0) && dC v 1 9)=true:=by
        simp only [aE,decide_eq_true_eq,kM]; exact fun h=>hv h.2
       rw [if_neg e1,aJC ho (by omega),if_neg (show ¬ (id=0/\false=true) from fun h=>by cases h.2)]
       simp
     ·have e1:¬ (decide (id=0) && decide (a=0) && dC v 1 9)=true:=by simp [hi]
      rw [if_neg e1,if_neg (show ¬ (id=0/\vU v o.cs=true) from fun h=>hi h.1)]
      simp
    ·rw [if_neg k4,if_neg k4,if_neg k4]
     by_cases hf:0<=fU o.cs id
     case neg =>
      rw [if_neg hf,if_neg]
      ·simp
      ·split
       ·simp [hf]
       ·split<;>simp [hf]
     rw [if_pos hf]
     rcases mP o.cs id with ⟨_,hn⟩|⟨i,x,hi,hr,_⟩
     ·exact absurd hf (of_decide_eq_false hn)
     have hxc:=fH (hp.2.2.2.2.2.2.2.2.2 x (aD hr))
     rw [hi,aB,hr]
     simp only
     have hi0:(0:Int)<=(i:Int):=by omega
     by_cases k3:k=3
     ·subst k3
      simp only [if_true]
      by_cases hv:1<=v/\v<=9
      ·have e1:(decide (0<=(i:Int)) && decide (a=0) && dC v 1 9)=true:=by
        simp only [aE,decide_eq_true_eq,kM]; exact ⟨⟨hi0,ha⟩,hv⟩
       rw [if_pos e1,if_pos (jR (by omega) (by omega))]
      ·have e1:¬ (decide (0<=(i:Int)) && decide (a=0) && dC v 1 9)=true:=by
        simp only [aE,decide_eq_true_eq,kM]; exact fun h=>hv h.2
       rw [if_neg e1]
       split
       ·split
        ·rfl
        ·rw [oH (y6 (x:={ x with h:=kS v x.h }) (aBj hr) (aIF (aPz v x.h) (by omega)))]
       ·rfl
     ·rw [if_neg k3,if_neg k3,if_neg k3]
      by_cases k5:k=5
      ·subst k5
       simp only [if_true]
       by_cases hv:1<=v
       ·have e1:(decide (0<=(i:Int)) && decide (a=0) && decide (1<=v))=true:=by
         simp only [aE,decide_eq_true_eq]; exact ⟨⟨hi0,ha⟩,hv⟩
        rw [if_pos e1,if_pos hv]
        by_cases hv2:v > 20000 - x.d
        ·rw [if_pos hv2]
         split
         ·rw [oH (y6 (x:={ x with d:=x.d + v }) (aBj hr) (aCr (.inr (by simp only; omega))))]; rfl
         ·rfl
        ·rw [if_neg hv2,if_pos (jR (by omega) (by omega))]
       ·have e1:¬ (decide (0<=(i:Int)) && decide (a=0) && decide (1<=v))=true:=by
         simp only [aE,decide_eq_true_eq]; exact fun h=>hv h.2
        rw [if_neg e1,if_neg hv]
        simp
      ·rw [if_neg k5,if_neg k5,if_neg k5]
       by_cases k6:k=6
       ·rw [if_pos k6]
        by_cases hv:v=0
        ·have e1:(decide (k=6) && decide (0<=(i:Int)) && decide (a=0) && decide (v=0))=true:=by
          simp only [aE,decide_eq_true_eq]; exact ⟨⟨⟨k6,hi0⟩,ha⟩,hv⟩
         rw [if_pos e1,if_pos (jR (by omega) (by omega))]
         cases hd:eE o x with
         | true=>rw [if_pos rfl,if_pos ⟨hv,rfl⟩]
         | false=>rw [if_neg (by decide),if_neg (show ¬ (v=0/\false=true) from fun h=>by cases h.2)]
        ·have e1:¬ (decide (k=6) && decide (0<=(i:Int)) && decide (a=0) && decide (v=0))=true:=by
          simp only [aE,decide_eq_true_eq]; exact fun h=>hv h.2
         rw [if_neg e1,if_neg (show ¬ (v=0/\eE o x=true) from fun h=>hv h.1)]
         simp
       ·have e1:¬ (decide (k=6) && decide (0<=(i:Int)) && decide (a=0) && decide (v=0))=true:=by
         simp only [aE,decide_eq_true_eq]; exact fun h=>k6 h.1.1.1
        rw [if_neg e1,if_neg k6]
        simp
end Go.Pe.Tryz
namespace Go.Pe.Tryz
open Go.Proofs.Tryz
theorem aLk (xs:List Cs) (hlen:xs.length<=1048576):Fn prog 101 [.sl false 4 (dl Cs.s xs)] (fun rs=>rs=[.sl true 4 (dl Cs.s xs)]):=by
 refine cW aQX [] ?_
 dsimp only [aQX,cT,c7]
 simp only [↓wA,↓wC,wB,cL,cK,bP,bQ,bR,reduceIte,reduceCtorEq,aA,bT,dE]
 refine aIG (fun h=>?_) ?_
 ·rw [cO] at h
  have e:xs=[]:=aN.1 h
  subst e
  simp only [↓wA,↓wC,wB,cL,cK,bP,bQ,bR,reduceIte,reduceCtorEq,aA,bT,dE]
  refine lM 4 ?_
  rfl
 ·simp only [cO,↓wA,↓wC,wB,cL,cK,bP,bQ,bR,reduceIte,reduceCtorEq,aA,bT,dE]
  refine cQ ⟨by omega,by omega⟩ ?_
  simp only [↓wA,↓wC,wB,cL,cK,bP,bQ,bR,reduceIte,reduceCtorEq,aA,bT,dE]
theorem aKf (L:List (List UInt8)) (hlen:L.length<=1048576):Fn prog 103 [.sl false 1 (dl D.str L)] (fun rs=>rs=[.sl true 1 (dl D.str L)]):=by
 refine cW aQN [] ?_
 dsimp only [aQN,cT,c7]
 simp only [↓wA,↓wC,wB,cL,cK,bP,bQ,bR,reduceIte,reduceCtorEq,aA,bT,dE]
 refine aIG (fun h=>?_) ?_
 ·rw [cO] at h
  have e:L=[]:=aN.1 h
  subst e
  simp only [↓wA,↓wC,wB,cL,cK,bP,bQ,bR,reduceIte,reduceCtorEq,aA,bT,dE]
  refine lM 1 ?_
  rfl
 ·simp only [cO,↓wA,↓wC,wB,cL,cK,bP,bQ,bR,reduceIte,reduceCtorEq,aA,bT,dE]
  refine cQ ⟨by omega,by omega⟩ ?_
  simp only [↓wA,↓wC,wB,cL,cK,bP,bQ,bR,reduceIte,reduceCtorEq,aA,bT,dE]
def cm (p:Bool×Cs):D:=if p.1 then p.2.o else p.2.s
def y9 (xs:List Cs) (i:Nat):List (Bool×Cs):=(xs.take i).map (fun x=>(true,x)) ++ (xs.drop i).map (fun x=>(false,x))
theorem aMZ (xs:List Cs) (i:Nat):(y9 xs i).length=xs.length:=by simp [y9]; omega
theorem aMV {xs:List Cs} {i:Nat} {x:Cs} (hr:xs[i]?=some x):(y9 xs i)[i]?=some (false,x):=by
 have hi:=cV hr
 rw [y9,List.getElem?_append_right (by simp; omega),aR,aK,aG (by omega),aS,List.getElem?_map,List.getElem?_drop]
 simp [hr]
theorem aMI {xs:List Cs} {i:Nat} {x:Cs} (hr:xs[i]?=some x):(y9 xs i).set i (true,x)=y9 xs (i + 1):=by
 have hi:=cV hr
 rw [y9,aM _ _ (by simp; omega),aR,aK,aG (by omega),aS,aAA hr,List.map_cons,a8,y9,e7 hr]
 simp
theorem aSF (xs:List Cs):dl cm (y9 xs 0)=dl Cs.s xs:=by
 simp only [y9,bH,bL,aH,List.drop_zero,dl,aX]
 rfl
theorem aSq (xs:List Cs):dl cm (y9 xs xs.length)=dl Cs.o xs:=by
 simp only [y9,aI,List.drop_length,bL,bD,dl,aX]
 rfl
theorem vW (o:Off) (ho:o.ok0):Fn prog 66 [o.s] (fun rs=>rs=[o.o]):=by
 have hC:=aLk o.cs ho.1.1
 have hT:=aKf o.led ho.2.1
 have hlen:=ho.1.1
 refine cW aUp [[1,1,0,0],[1,1,1,0]] ?_
 dsimp only [aUp,cT,c7]
 simp only [Off.s,dU]
 repeat' (first|(simp only [cX,cR,cJ,↓wA,↓wC,wB,cL,cK,bP,bQ,bR,reduceIte,reduceCtorEq,aA,bT,dE])|(refine cI hC rfl rfl ?_)|((first|apply cG|apply cH|apply cF)<;>intro h<;>try simp only [h]))
 refine eI _ (eZ 0 none [1] (es:=4) (xs:=dl Cs.s o.cs) rfl rfl) fun v1=>?_
 simp only [dY,cX,cR,cJ,cO,↓wA,↓wC,wB,cL,cK,bP,bQ,bR,reduceIte,reduceCtorEq,aA,bT,dE]
 refine dR o.cs.length (fun i:Nat=>⟨[(1,.ptr 0 0 []),(2,.ptr 1 0 []),(10,.d (.int .i64 o.cs.length)),(11,.d (.int .i64 i))],[.box (dU o (.lnk 4 v1) (.sl false 1 (dl D.str o.led))),.box (.st (.cons (.int .i64 0) (.cons (.sl true 4 .nil) (.cons (.int .i64 0) (.cons (.int .i64 0) (.cons (.sl true 1 .nil) .nil)))))),.dead,.val (.sl true 4 (dl cm (y9 o.cs i))),.tag 3 v1]⟩) (fun _=>True) ?_ trivial ?_ ?_
 ·rw [aSF]; exact (cU _ rfl ⟨⟨rfl,rfl⟩,⟨rfl,rfl⟩,⟨rfl,rfl⟩,⟨rfl,rfl⟩,trivial⟩)
 ·intro i hlt _ hd h0
  obtain ⟨x,hr⟩:=dP hlt
  have h1:=aKb x.h (ho.1.2 x (aD hr))
  have hg:=aMV hr
  have hcm:cm (false,x)=x.p (.sl false 1 (dl iD x.h)):=rfl
  have hgs:∀ (y:D),((dl cm (y9 o.cs i)).setN i y).nth i=some y:=fun y=>by rw [oD,if_pos rfl,c6,hg]; rfl
  simp only [dU]
  repeat' (first|(simp only [cO,aMZ,hd,h0,c6,aB,hg,hcm,hgs,eL,aC,cJ,cY,fM,eJ,eQ,↓wA,↓wC,wB,cL,cK,bP,bQ,bR,reduceIte,reduceCtorEq,aA,bT,dE])|(refine dL ?_)|(refine cI h1 rfl rfl ?_)|(refine cP (by simp only [dX]; omega) ?_)|((first|apply cG|apply cH|apply cF)<;>intro h<;>try simp only [h]))
  have e:x.p (.sl true 1 (dl iD x.h))=cm (true,x):=rfl
  rw [e,gV,aMI hr]
  exact ⟨i + 1,(cU _ rfl ⟨⟨rfl,rfl⟩,⟨rfl,rfl⟩,⟨rfl,rfl⟩,⟨rfl,rfl⟩,trivial⟩),by omega,by omega⟩
 ·intro _ hd
  rw [aSq]
  simp only [dU]
  repeat' (first|(simp only [cO,hd,cJ,↓wA,↓wC,wB,cL,cK,bP,bQ,bR,reduceIte,reduceCtorEq,aA,bT,dE])|((first|apply cG|apply cH|apply cF)<;>intro h<;>try simp only [h]))
  refine c8 (gA 0 4 3 none [1] rfl rfl rfl rfl (by decide) rfl) ?_
  simp only [dY,↓wA,↓wC,wB,cL,cK,bP,bQ,bR,reduceIte,reduceCtorEq,aA,bT,dE]
  repeat' (first|(simp only [cR,cJ,↓wA,↓wC,wB,cL,cK,bP,bQ,bR,reduceIte,reduceCtorEq,aA,bT,dE])|(refine cI hT rfl rfl ?_)|((first|apply cG|apply cH|apply cF)<;>intro h<;>try simp only [h]))
  all_goals exact cQ rfl rfl
theorem aJd {v:List Int} (h:oE v=true):aDI v:=fun j a b ha hb=>by
 have:=(rK v).1 h j (cV hb)
 rw [List.getD_eq_getElem?_getD,List.getD_eq_getElem?_getD,ha,hb] at this
 simpa using this
theorem aG2 {v:List Int} (h:aDI v):v.Nodup:=by
 rw [List.Nodup,List.pairwise_iff_getElem]
 intro i j hi hj hij
 have:=aB6 h j i v[i] v[j] hij (List.getElem?_eq_getElem hi) (List.getElem?_eq_getElem hj)
 omega
theorem aCk {v:Int}:∀ (h:List Int) (k:Nat),h.Nodup->h[k]?=some v->h.take k ++ h.drop (k + 1)=h.filter (fun n=>!decide (n=v))
 | [],k,_,hk=>by simp at hk
 | a :: t,0,hn,hk=>by
  simp only [List.getElem?_cons_zero,Option.some.injEq] at hk
  subst hk
  obtain ⟨h1,h2⟩:=bE.1 hn
  have:t.filter (fun n=>!decide (n=a))=t:=by
   rw [a7]
   intro x hx
   have:x≠a:=fun e=>h1 (e ▸ hx)
   simp [this]
  simp [this]
 | a :: t,k + 1,hn,hk=>by
  obtain ⟨h1,h2⟩:=bE.1 hn
  simp only [List.getElem?_cons_succ] at hk
  have ha:a≠v:=fun e=>h1 (e ▸ aD hk)
  have ih:=aCk t k h2 hk
  simp only [List.take_succ_cons,List.drop_succ_cons,aF,ih]
  simp [ha]
theorem aUw {v:Int} {h:List Int} (hn:h.contains v=false):h.filter (fun n=>!decide (n=v))=h:=by
 rw [a7]
 intro x hx
 have:x≠v:=fun e=>by
  subst e
  rw [aU.2 hx] at hn
  cases hn
 simp [this]
theorem aPA {v:Int} {h:List Int}:decide (0<=kN (fun x=>decide (v=x)) h)=h.contains v:=by
 rw [rO,tN]
def tF (v:Int) (xs:List Cs) (i:Nat):List Cs:=(xs.take i).map (tU v) ++ xs.drop i
theorem m4 (v:Int) (xs:List Cs) (i:Nat):(tF v xs i).length=xs.length:=by simp [tF]; omega
theorem aHr {v:Int} {xs:List Cs} {i:Nat} {x:Cs} (hr:xs[i]?=some x):(tF v xs i)[i]?=some x:=by
 have hi:=cV hr
 rw [tF,List.getElem?_append_right (by simp; omega),aR,aK,aG (by omega),aS,List.getElem?_drop]
 simpa using hr
theorem aCy {v:Int} {xs:List Cs} {i:Nat} {x:Cs} (hr:xs[i]?=some x):(tF v xs i).set i (tU v x)=tF v xs (i + 1):=by
 have hi:=cV hr
 rw [tF,aM _ _ (by simp; omega),aR,aK,aG (by omega),aS,aAA hr,a8,tF,e7 hr]
 simp
theorem aD4 {v:Int} {xs:List Cs} {i:Nat} {x:Cs} (hr:xs[i]?=some x):vU v (xs.take (i + 1))=(vU v (xs.take i) || x.h.contains v):=by
 rw [e7 hr]
 simp [vU]
theorem aIu (o:Off) (v:Int) (ho:o.ok0) (hn:∀ x∈o.cs,x.h.Nodup):xR prog 147 true o.o [.int .i64 v] (fun x' rs=>x'=Off.o { o with cs:=o.cs.map (tU v) }/\rs=[.bool (vU v o.cs)]):=by
 have hlen:=ho.1.1
 refine jV aRY [[1,1,0,1,0,0,1,1,0,0,1,0],[1,1,0,1,0,0,1,1,1],[1,1,0,0],[1,1,1,0]] ?_
 dsimp only [aRY,cT,c7]
 simp only [Off.o,dU]
 repeat' (first|(simp only [cJ,↓wA,↓wC,wB,cL,cK,bP,bQ,bR,reduceIte,reduceCtorEq,aA,bT])|((first|apply cG|apply cH|apply cF)<;>intro h<;>try simp only [h]))
 refine eI _ (eZ 0 none [1] (es:=4) (xs:=dl Cs.o o.cs) rfl rfl) fun v1=>?_
 simp only [dY,cJ,cO,↓wA,↓wC,wB,cL,cK,bP,bQ,bR,reduceIte,reduceCtorEq,aA,bT]
 refine dR o.cs.length (fun i:Nat=>⟨[(0,.ptr 0 0 []),(1,.d (.int .i64 v)),(5,.d (.bool (vU v (o.cs.take i)))),(12,.d (.int .i64 o.cs.length)),(13,.d (.int .i64 i))],[.box (dU o (.lnk 2 v1) (.sl true 1 (dl D.str o.led))),.val (.sl true 4 (dl Cs.o (tF v o.cs i))),.tag 1 v1]⟩) (fun _=>True) ?_ trivial ?_ ?_
 ·exact (cU _ rfl ⟨⟨rfl,rfl⟩,⟨rfl,rfl⟩,⟨rfl,rfl⟩,⟨rfl,rfl⟩,⟨rfl,rfl⟩,trivial⟩)
 ·intro i hlt _ hd h0
  obtain ⟨x,hr⟩:=dP hlt
  have hg:=aHr (v:=v) hr
  have hxo:=ho.1.2 x (aD hr)
  have hI:=aDV x.h v hxo
  have hI':Fn prog 189 [.sl false 1 (dl iD x.h).unown,.int .i64 v] (fun rs=>rs=[.int .i64 (kN (fun x=>decide (v=x)) x.h)]):=by rw [dM]; exact hI
  have hcm:Cs.o x=x.p (.sl true 1 (dl iD x.h)):=rfl
  have hgs:∀ (y:D),((dl Cs.o (tF v o.cs i)).setN i y).nth i=some y:=fun y=>by rw [oD,if_pos rfl,c6,hg]; rfl
  have hgn:(dl Cs.o (tF v o.cs i)).nth i=some (x.p (.sl true 1 (dl iD x.h))):=by rw [c6,hg]; rfl
  have hx:=aD4 (v:=v) hr
  have hix:=aPA (v:=v) (h:=x.h)
  simp only [dU]
  repeat' (first|(simp only [cO,m4,hd,h0,cJ,↓wA,↓wC,wB,cL,cK,bP,bQ,bR,reduceIte,reduceCtorEq,aA,bT])|((first|apply cG|apply cH|apply cF)<;>intro h<;>try simp only [h]))
  refine eI _ (eZ 1 (some i) [3] (es:=1) (xs:=dl iD x.h) rfl (by simp only [kE,hgn,aL,eJ])) fun v2=>?_
  simp only [dY,hgn,aJ,eQ,↓wA,↓wC,wB,cL,cK,bP,bQ,bR,reduceIte,reduceCtorEq,aA,bT]
  by_cases hge:0<=kN (fun x=>decide (v=x)) x.h
  ·obtain ⟨k,r,hk,hkr,hkp⟩:=aF3 hge
   have hrv:v=r:=of_decide_eq_true hkp
   subst hrv
   rw [hk] at hI' hix
   have hc:x.h.contains v=true:=by rw [<- hix]; exact decide_eq_true (by omega)
   rw [hc] at hix hx
   have hD:=aIZ x.h k (k + 1) (by omega) (by have:=cV hkr; omega)
   rw [show ((k + 1:Nat):Int)=(k:Int) + 1 by omega] at hD
   have hkl:k<=1048576:=by
    have:=cV hkr
    unfold Cs.ok0 at hxo
    omega
   have hdf:=aCk x.h k (hn x (aD hr)) hkr
   repeat' (first|(simp only [cO,m4,hd,h0,hix,hgn,hgs,eL,aB,aC,cJ,fM,eJ,eQ,↓wA,↓wC,wB,bP,bQ,reduceIte,reduceCtorEq])|(refine cI (hI') rfl rfl ?_)|(refine cM (hI') rfl rfl ?_)|(refine dL ?_)|(with_reducible refine cP ?_ ?_; focus (simp only [dX]; omega))|((first|apply cG|apply cH|apply cF)<;>intro h<;>try simp only [h]))
   refine lD (bx:=false) (r:=3) hD rfl rfl rfl ?_
   rintro _ _ ⟨⟨u,rfl⟩,rfl⟩
   repeat' (first|(simp only [cO,m4,hd,h0,hix,hgn,hgs,eL,aB,aC,cJ,fM,eJ,eQ,↓wA,↓wC,wB,cL,cK,bP,bQ,bR,reduceIte,reduceCtorEq,aA,bT])|(with_reducible refine cP ?_ ?_; focus (simp only [dX]; omega))|((first|apply cG|apply cH|apply cF)<;>intro h<;>try simp only [h]))
   refine c8 (gO.refl _) ?_
   repeat' (first|(simp only [cJ,↓wA,↓wC,wB,cL,cK,bP,bQ,bR,reduceIte,reduceCtorEq,aA,bT])|(with_reducible refine cP ?_ ?_; focus (simp only [dX]; omega))|((first|apply cG|apply cH|apply cF)<;>intro h<;>try simp only [h]))
   have e:x.p (.sl true 1 (dl iD (x.h.take k ++ x.h.drop (k + 1))))=Cs.o (tU v x):=by rw [hdf]; rfl
   rw [e,gV,aCy hr]
   refine ⟨i + 1,?_,by omega,by omega⟩
   rw [hx,bA]
   exact (cU _ rfl ⟨⟨rfl,rfl⟩,⟨rfl,rfl⟩,⟨rfl,rfl⟩,⟨rfl,rfl⟩,⟨rfl,rfl⟩,trivial⟩)
  ·have hm:=aMY hge
   rw [hm] at hI' hix
   have hc:x.h.contains v=false:=by rw [<- hix]; rfl
   rw [hc] at hix hx
   have hrx:tU v x=x:=by
    show ({ x with h:=_ }:Cs)=x
    rw [aUw hc]
   repeat' (first|(simp only [cO,m4,hd,h0,hix,hgn,hgs,eL,aB,aC,cJ,fM,eJ,eQ,↓wA,↓wC,wB,cL,cK,bP,bQ,bR,reduceIte,reduceCtorEq,aA,bT])|(refine cI (hI') rfl rfl ?_)|(refine cM (hI') rfl rfl ?_)|(with_reducible refine cP ?_ ?_; focus (simp only [dX]; omega))|((first|apply cG|apply cH|apply cF)<;>intro h<;>try simp only [h]))
   refine c8 (gA 1 4 3 (some i) [3] rfl (by simp only [kE,hgs,aL,eJ]) rfl rfl (by decide) rfl) ?_
   simp only [dY,hgs,aJ,eQ,eL,↓wA,↓wC,wB,cL,cK,bP,bQ,bR,reduceIte,reduceCtorEq,aA,bT]
   repeat' (first|(simp only [cJ,↓wA,↓wC,wB,bP,reduceIte,reduceCtorEq])|(with_reducible refine cP ?_ ?_; focus (simp only [dX]; omega))|((first|apply cG|apply cH|apply cF)<;>intro h<;>try simp only [h]))
   have e:x.p (.sl true 1 (dl iD x.h))=Cs.o (tU v x):=by rw [hrx]; rfl
   rw [e,gV,aCy hr]
   refine ⟨i + 1,?_,by omega,by omega⟩
   rw [hx,a6]
   exact (cU _ rfl ⟨⟨rfl,rfl⟩,⟨rfl,rfl⟩,⟨rfl,rfl⟩,⟨rfl,rfl⟩,⟨rfl,rfl⟩,trivial⟩)
 ·intro _ hd
  have er:tF v o.cs o.cs.length=o.cs.map (tU v):=by simp [tF]
  rw [er,aI]
  simp only [dU]
  repeat' (first|(simp only [cO,hd,cJ,↓wA,↓wC,wB,cL,cK,bP,bQ,bR,reduceIte,reduceCtorEq,aA,bT])|((first|apply cG|apply cH|apply cF)<;>intro h<;>try simp only [h]))
  refine c8 (gA 0 2 1 none [1] rfl rfl rfl rfl (by decide) rfl) ?_
  simp only [dY,↓wA,↓wC,wB,cL,cK,bP,bQ,bR,reduceIte,reduceCtorEq,aA,bT]
  repeat' (first|(simp only [cJ,↓wA,↓wC,wB,bP,reduceIte,reduceCtorEq])|((first|apply cG|apply cH|apply cF)<;>intro h<;>try simp only [h]))
  all_goals exact ⟨rfl,rfl⟩
def aA3 (xs:List Cs):List (Bool×Cs):=xs.map fun x=>(true,x)
theorem aPr (xs:List Cs):dl cm (aA3 xs)=dl Cs.o xs:=by
 simp only [dl,aA3,aX]; rfl
theorem aMf {xs:List Cs} {i:Nat} {x:Cs} (hr:xs[i]?=some x):(aA3 xs)[i]?=some (true,x):=by simp [aA3,hr]
theorem aMB {xs:List Cs} {i:Nat} {p:Bool×Cs} (hi:i < xs.length):(((aA3 xs).set i p).map cm).take i ++ (((aA3 xs).set i p).map cm).drop (i + 1)=(xs.eraseIdx i).map Cs.o:=by
 rw [<- bJ,<-bK,List.take_set_of_le (bM _),List.drop_set_of_lt (by omega),<-bF]
 unfold aA3
 rw [<- bJ,<-bK,<-bF,aX,List.eraseIdx_eq_take_drop_succ]
 rfl
theorem aOD (xs:List (Bool×Cs)):∀ d∈xs.map cm,d.size=4:=fun d hd=>by
 obtain ⟨⟨b,x⟩,_,rfl⟩:=aY.1 hd
 cases b<;>rfl
theorem aLU (L:List (List UInt8)) (s:List UInt8):(dl D.str L).app (D.cons (.str s) .nil)=dl D.str (L ++ [s]):=iJ (f:=D.str) L s
theorem aNc (a b:List UInt8):([114] ++ a) ++ [32,100] ++ b=114 :: (a ++ 32 :: 100 :: b):=by simp
theorem aQs (o:Off) (i:Nat) (x:Cs) (ho:dO o=true) (hr:o.cs[i]?=some x):xR prog 192 true o.o [.int .i64 i] (fun x' rs=>rs=[.bool (eE o x)]/\(eE o x=true->x'=(lJ o i x).o)):=by
 have hp:=eK ho
 have hx:=fH (hp.2.2.2.2.2.2.2.2.2 x (aD hr))
 have hil:=cV hr
 have hi0:(0:Int)<=(i:Int):=by omega
 have hgA:=aMf hr
 have hgn:(dl Cs.o o.cs).nth i=some (x.p (.sl true 1 (dl iD x.h))):=by rw [c6,hr]; rfl
 have hcmf:cm (false,x)=x.p (.sl false 1 (dl iD x.h)):=rfl
 have hset:(dl Cs.o o.cs).setN i (x.p (.sl false 1 (dl iD x.h)))=dl cm ((aA3 o.cs).set i (false,x)):=by
  rw [<- aPr,<-hcmf,gV]
 have hgF:((aA3 o.cs).set i (false,x))[i]?=some (false,x):=by
  rw [List.getElem?_set,if_pos rfl,if_pos (cV hgA)]
 have hxs:x.p (.sl false 1 (dl iD x.h))=x.s:=rfl
 have hD:=aIJ (((aA3 o.cs).set i (false,x)).map cm) (aOD _) i (i + 1) (by omega) (by simp [aA3]; omega)
 rw [aMB hil,show ((i + 1:Nat):Int)=(i:Int) + 1 by omega] at hD
 have hD:xR prog 215 false (.sl true 4 (dl cm ((aA3 o.cs).set i (false,x)))) [.int .i64 i,.int .i64 ((i:Int) + 1)] (fun x' rs=>(∃ u,x'=.lnk 0 u)/\rs=[.sl true 4 (dl Cs.o (o.cs.eraseIdx i))]):=hD
 refine jV aRI [[1,1,1,0,1,0,1,1,1,1,1],[1,0],[1,0]] ?_
 dsimp only [aRI,cT,c7]
 simp only [Off.o,dU]
 repeat' (first|(simp only [cJ,↓wA,↓wC,wB,cL,cK,bP,bQ,bR,reduceIte,reduceCtorEq,aA,bT])|((first|apply cG|apply cH|apply cF)<;>intro h<;>try simp only [h]))
 refine eI _ (eZ 0 none [1] (es:=4) (xs:=dl Cs.o o.cs) rfl rfl) fun v1=>?_
 simp only [dY,↓wA,↓wC,wB,cL,cK,bP,bQ,bR,reduceIte,reduceCtorEq,aA,bT]
 refine c8 (freeze 1 (some i) [3] (x:=.sl true 1 (dl iD x.h)) rfl (by simp only [kE,hgn,aL,eJ]) rfl) ?_
 simp only [dY,hgn,aJ,eQ,D.unown,dM,hset,↓wA,↓wC,wB,cL,cK,bP,bQ,bR,reduceIte,reduceCtorEq,aA,bT]
 have hdl:(1:Int)<=o.cs.length:=by omega
 cases h1:decide (o.day < x.d) with
 | true =>
  have hB:eE o x=false:=by
   have:=of_decide_eq_true h1
   unfold eE
   rw [decide_eq_false (by omega)]; rfl
  repeat' (first|(simp only [c6,hi0,hgF,hcmf,aB,aC,cJ,cY,hxs,↓iH,aWD,aWC,iL,iM,jG,jH,iS,iU,iV,iX,cO,h1,↓wA,↓wC,wB,bP,bQ,reduceIte,reduceCtorEq])|((first|apply cG|apply cH|apply cF)<;>intro h<;>try simp only [h]))
  all_goals exact ⟨by rw [hB],fun h=>by rw [hB] at h; cases h⟩
 | false =>
  have h1':=of_decide_eq_false h1
  have h0:decide (x.d<=o.day)=true:=decide_eq_true (by omega)
  cases h2:decide (x.a=1) with
  | true =>
   have h2':=of_decide_eq_true h2
   have hB:eE o x=true:=by unfold eE; rw [h0,h2]; rfl
   have hO:(lJ o i x).o=dU { o with kept:=o.kept + 1 } (.sl true 4 (dl Cs.o (o.cs.eraseIdx i))) (.sl true 1 (dl D.str o.led)):=by
    unfold lJ; rw [if_pos h2']; rfl
   repeat' (first|(simp only [c6,hi0,hgF,hcmf,aB,aC,cJ,cY,hxs,↓iH,aWD,aWC,iL,iM,jG,jH,iS,iU,iV,iX,cO,h1,h2,↓wA,↓wC,wB,cL,cK,bP,bQ,bR,reduceIte,reduceCtorEq,aA,bT])|(with_reducible refine cP ?_ ?_; focus (simp only [dX]; omega))|((first|apply cG|apply cH|apply cF)<;>intro h<;>try simp only [h]))
   refine lD (bx:=false) (r:=1) hD rfl rfl rfl ?_
   rintro _ _ ⟨⟨u,rfl⟩,rfl⟩
   repeat' (first|(simp only [c6,hi0,hgF,hcmf,aB,aC,cJ,cY,hxs,↓iH,aWD,aWC,iL,iM,jG,jH,iS,iU,iV,iX,cO,↓wA,↓wC,wB,cL,cK,bP,bQ,bR,reduceIte,reduceCtorEq,aA,bT])|((first|apply cG|apply cH|apply cF)<;>intro h<;>try simp only [h]))
   all_goals exact ⟨by rw [hB],fun _=>hO.symm⟩
  | false =>
   have h2':=of_decide_eq_false h2
   cases h3:decide (x.a=2) with
   | true =>
    have h3':=of_decide_eq_true h3
    have hB:eE o x=true:=by unfold eE; rw [h0,h2,h3]; rfl
    have hO:(lJ o i x).o=dU { o with moved:=o.moved + 1 } (.sl true 4 (dl Cs.o (o.cs.eraseIdx i))) (.sl true 1 (dl D.str o.led)):=by
     unfold lJ; rw [if_neg h2',if_pos h3']; rfl
    repeat' (first|(simp only [c6,hi0,hgF,hcmf,aB,aC,cJ,cY,hxs,↓iH,aWD,aWC,iL,iM,jG,jH,iS,iU,iV,iX,cO,h1,h2,h3,↓wA,↓wC,wB,cL,cK,bP,bQ,bR,reduceIte,reduceCtorEq,aA,bT])|(with_reducible refine cP ?_ ?_; focus (simp only [dX]; omega))|((first|apply cG|apply cH|apply cF)<;>intro h<;>try simp only [h]))
    refine lD (bx:=false) (r:=1) hD rfl rfl rfl ?_
    rintro _ _ ⟨⟨u,rfl⟩,rfl⟩
    repeat' (first|(simp only [c6,hi0,hgF,hcmf,aB,aC,cJ,cY,hxs,↓iH,aWD,aWC,iL,iM,jG,jH,iS,iU,iV,iX,cO,↓wA,↓wC,wB,cL,cK,bP,bQ,bR,reduceIte,reduceCtorEq,aA,bT])|((first|apply cG|apply cH|apply cF)<;>intro h<;>try simp only [h]))
    all_goals exact ⟨by rw [hB],fun _=>hO.symm⟩
   | false =>
    have h3':=of_decide_eq_false h3
    cases h4:decide ((0:Int) < (x.h.length:Int)) with
    | true =>
     have h4':=of_decide_eq_true h4
     have hB:eE o x=false:=by unfold eE; rw [h0,h2,h3,decide_eq_false (by omega)]; rfl
     repeat' (first|(simp only [c6,hi0,hgF,hcmf,aB,aC,cJ,cY,hxs,↓iH,aWD,aWC,iL,iM,jG,jH,iS,iU,iV,iX,cO,h1,h2,h3,h4,↓wA,↓wC,wB,cL,cK,bP,bQ,bR,reduceIte,reduceCtorEq,aA,bT])|((first|apply cG|apply cH|apply cF)<;>intro h<;>try simp only [h]))
     all_goals exact ⟨by rw [hB],fun h=>by rw [hB] at h; cases h⟩
    | false =>
     have h4':=of_decide_eq_false h4
     have hB:eE o x=true:=by unfold eE; rw [h0,h2,h3,decide_eq_true (show x.h.length=0 by omega)]; rfl
     have hO:(lJ o i x).o=dU o (.sl true 4 (dl Cs.o (o.cs.eraseIdx i))) (.sl true 1 (dl D.str (o.led ++ [l8 x.i o.day]))):=by
      unfold lJ; rw [if_neg h2',if_neg h3']; rfl
     have hiR:dX .i64 x.i:=by simp only [dX]; omega
     have hdR:dX .i64 o.day:=by simp only [dX]; omega
     have hN1:=fG x.i hiR
     have hN2:=fG o.day hdR
     have hl1:=eS x.i hiR
     have hl2:=eS o.day hdR
     have hE:=aNc (Lib.itoa x.i) (Lib.itoa o.day)
     have hE':114 :: (Lib.itoa x.i ++ 32 :: 100 :: Lib.itoa o.day)=l8 x.i o.day:=rfl
     repeat' (first|(simp only [c6,hi0,hgF,hcmf,aB,aC,cJ,cY,hxs,↓iH,aWD,aWC,iL,iM,jG,jH,iS,iU,iV,iX,cO,h1,h2,h3,h4,↓wA,↓wC,wB,cL,cK,bP,bQ,bR,reduceIte,reduceCtorEq,aA,bT])|((first|apply cG|apply cH|apply cF)<;>intro h<;>try simp only [h]))
     refine eI _ (eZ 0 none [4] (es:=1) (xs:=dl D.str o.led) rfl rfl) fun v2=>?_
     simp only [dY,↓wA,↓wC,wB,cL,cK,bP,bQ,bR,reduceIte,reduceCtorEq,aA,bT]
     repeat' (first|(simp only [c6,hi0,hgF,hcmf,aB,aC,cJ,cY,hxs,↓iH,aWD,aWC,iL,iM,jG,jH,iS,iU,iV,iX,cO,h1,h2,h3,h4,hE,hE',aLU,↓wA,↓wC,wB,bP,bQ,reduceIte,reduceCtorEq,aA,bT])|(refine cI (hN1) rfl rfl ?_)|(refine cM (hN1) rfl rfl ?_)|(refine cI (hN2) rfl rfl ?_)|(refine cM (hN2) rfl rfl ?_)|(refine dL ?_)|(with_reducible refine cP ?_ ?_; focus (simp only [dX]; omega))|(with_reducible refine cQ ?_ ?_; focus omega)|(with_reducible refine cQ ?_ ?_; focus (simp only [aO,List.length_cons,List.length_nil]; omega))|((first|apply cG|apply cH|apply cF)<;>intro h<;>try simp only [h]))
     refine cQ (by simp) (cQ (by omega) ?_)
     refine cP (by simp only [dX]; omega) ?_
     refine lD (bx:=false) (r:=1) hD rfl rfl rfl ?_
     rintro _ _ ⟨⟨u,rfl⟩,rfl⟩
     repeat' (first|(simp only [c6,hi0,hgF,hcmf,aB,aC,cJ,cY,hxs,↓iH,aWD,aWC,iL,iM,jG,jH,iS,iU,iV,iX,cO,↓wA,↓wC,wB,cL,cK,bP,bQ,bR,reduceIte,reduceCtorEq,aA,bT])|((first|apply cG|apply cH|apply cF)<;>intro h<;>try simp only [h]))
     all_goals exact ⟨by rw [hB],fun _=>hO.symm⟩
def jZ (k id a v:Int):D:=.st (.cons (.int .i64 k) (.cons (.int .i64 id) (.cons (.int .i64 a) (.cons (.int .i64 v) .nil))))
def aL7 (r:Option Off) (x':D) (rs:List D):Prop:=rs=[.bool r.isSome]/\∀ o',r=some o'->x'=o'.o
theorem l5 {r:Option Off} {x':D} (h:r=none):aL7 r x' [.bool false]:=⟨by rw [h]; rfl,fun o' e=>by rw [h] at e; cases e⟩
theorem pO {r:Option Off} {x':D} {o':Off} (h:r=some o') (hx:x'=o'.o):aL7 r x' [.bool true]:=⟨by rw [h]; rfl,fun o'' e=>by rw [h] at e; injection e with e; rw [<- e,hx]⟩
def y5 (o:Off) (i:Nat) (x:Cs) (k v:Int):Option Off :=
 if k=3 then (if x.h.contains v=true then none else some { o with cs:=o.cs.set i { x with h:=kS v x.h } })
 else if k=5 then (if 1<=v then some { o with cs:=o.cs.set i { x with d:=x.d + v } } else none)
 else if k=6 then (if v=0/\eE o x=true then some (lJ o i x) else none)
 else none
theorem aHd (o:Off) (i:Nat) (x:Cs) (k id a v:Int) (ho:dO o=true) (hr:o.cs[i]?=some x) (hv0:0<=v) (hv1:v<=20000):xR prog 148 true o.o [.int .i64 i,jZ k id a v] (aL7 (y5 o i x k v)):=by
 have hp:=eK ho
 have hx:=fH (hp.2.2.2.2.2.2.2.2.2 x (aD hr))
 have hil:=cV hr
 have hi0:(0:Int)<=(i:Int):=by omega
 have hgn:(dl Cs.o o.cs).nth i=some (x.p (.sl true 1 (dl iD x.h))):=by rw [c6,hr]; rfl
 have hgs:∀ (y:D),((dl Cs.o o.cs).setN i y).nth i=some y:=fun y=>by rw [oD,if_pos rfl,hgn]; rfl
 have hxo:x.h.length<=1048576:=by omega
 have hdl:(1:Int)<=o.cs.length:=by omega
 cases h3:decide (k=3) with
 | true =>
  have h3':=of_decide_eq_true h3
  have hC:=xQ x.h v hxo
  have hC':Fn prog 151 [.sl false 1 (dl iD x.h).unown,.int .i64 v] (fun rs=>rs=[.bool (x.h.contains v)]):=by rw [dM]; exact hC
  have hO:y5 o i x k v=if x.h.contains v=true then none else some { o with cs:=o.cs.set i { x with h:=kS v x.h } }:=if_pos h3'
  refine jV aAC [[1,1,0,1,0,1,0,1,1,1,0],[1,1,0,1,0,1,0,1,1,1,0],[1,1,0,1,0,1,0,1,1,0],[1,1,0,1,0,1,0,0,0],[1,0]] ?_
  dsimp only [aAC,cT,c7]
  simp only [Off.o,dU,jZ]
  repeat' (first|(simp only [cJ,↓wA,↓wC,wB,cL,cK,bP,bQ,bR,reduceIte,reduceCtorEq,aA,bT])|((first|apply cG|apply cH|apply cF)<;>intro h<;>try simp only [h]))
  refine eI _ (eZ 0 none [1] (es:=4) (xs:=dl Cs.o o.cs) rfl rfl) fun v1=>?_
  simp only [dY,↓wA,↓wC,wB,cL,cK,bP,bQ,bR,reduceIte,reduceCtorEq,aA,bT]
  repeat' (first|(simp only [hi0,aB,hgn,hgs,h3,cJ,↓wA,↓wC,wB,bP,bQ,reduceIte,reduceCtorEq])|((first|apply cG|apply cH|apply cF)<;>intro h<;>try simp only [h]))
  refine eI _ (eZ 2 (some i) [3] (es:=1) (xs:=dl iD x.h) rfl (by simp only [kE,hgn,aL,eJ])) fun v2=>?_
  simp only [dY,hgn,aJ,eQ,↓wA,↓wC,wB,cL,cK,bP,bQ,bR,reduceIte,reduceCtorEq,aA,bT]
  cases hc:x.h.contains v with
  | true =>
   rw [hc] at hC' hO
   repeat' (first|(simp only [hi0,aB,hgn,hgs,h3,cJ,eL,fM,eJ,eQ,↓wA,↓wC,wB,bP,bQ,reduceIte,reduceCtorEq])|(refine cI (hC') rfl rfl ?_)|(refine cM (hC') rfl rfl ?_)|((first|apply cG|apply cH|apply cF)<;>intro h<;>try simp only [h]))
   all_goals exact l5 (by rw [hO]; rfl)
  | false =>
   rw [hc] at hC' hO
   have hnv:v ∉ x.h:=fun h=>by rw [aU.2 h] at hc; cases hc
   have hS:=aOV v x.h (aJd hx.2.2.2.2.2.2.2.2) hnv (by omega)
   repeat' (first|(simp only [hi0,aB,hgn,hgs,h3,cJ,eL,fM,eJ,eQ,jK,jI,jF,gC,cO,↓wA,↓wC,wB,cL,cK,bP,bQ,bR,reduceIte,reduceCtorEq,aA,bT])|(refine cI (hC') rfl rfl ?_)|(refine cM (hC') rfl rfl ?_)|(refine dL ?_)|(with_reducible refine cQ ?_ ?_; focus (simp; done))|(with_reducible refine cQ ?_ ?_; focus omega)|((first|apply cG|apply cH|apply cF)<;>intro h<;>try simp only [h]))
   refine eI _ (eZ 2 (some i) [3] (es:=1) (xs:=dl iD (x.h ++ [v])) rfl (by simp only [kE,hgs,aL,eJ])) fun v3=>?_
   simp only [dY,hgs,aJ,eQ,eL,↓wA,↓wC,wB,cL,cK,bP,bQ,bR,reduceIte,reduceCtorEq,aA,bT]
   repeat' (first|(simp only [hi0,aB,hgn,hgs,h3,cJ,eL,fM,eJ,eQ,jK,jI,jF,gC,cO,↓wA,↓wC,wB,bP,bQ,reduceIte,reduceCtorEq])|((first|apply cG|apply cH|apply cF)<;>intro h<;>try simp only [h]))
   refine mQ (bx:=false) (r:=7) hS rfl rfl rfl ?_
   repeat' (first|(simp only [hi0,aB,hgn,hgs,h3,cJ,eL,fM,eJ,eQ,jK,jI,jF,gC,cO,↓wA,↓wC,wB,cL,cK,bP,bQ,bR,reduceIte,reduceCtorEq,aA,bT])|((first|apply cG|apply cH|apply cF)<;>intro h<;>try simp only [h]))
   refine c8 (gA 2 8 7 (some i) [3] rfl (by simp only [kE,hgs,aL,eJ]) rfl rfl (by decide) rfl) ?_
   simp only [dY,hgs,aJ,eQ,eL,↓wA,↓wC,wB,cL,cK,bP,bQ,bR,reduceIte,reduceCtorEq,aA,bT]
   refine c8 (gA 0 3 2 none [1] rfl rfl rfl rfl (by decide) rfl) ?_
   simp only [dY,wB,reduceIte]
   repeat' (first|(simp only [hi0,aB,hgn,hgs,h3,cJ,eL,fM,eJ,eQ,jK,jI,jF,gC,cO,↓wA,↓wC,wB,reduceIte,reduceCtorEq])|((first|apply cG|apply cH|apply cF)<;>intro h<;>try simp only [h]))
   have e:x.p (.sl true 1 (dl iD (kS v x.h)))=Cs.o { x with h:=kS v x.h }:=rfl
   all_goals refine pO (o':={ o with cs:=o.cs.set i { x with h:=kS v x.h } }) (by rw [hO]; rfl) ?_
   rw [e,gV]; rfl
 | false =>
  have h3':=of_decide_eq_false h3
  cases h5:decide (k=5) with
  | true =>
   have h5':=of_decide_eq_true h5
   have hO:y5 o i x k v=if 1<=v then some { o with cs:=o.cs.set i { x with d:=x.d + v } } else none:=by unfold y5; rw [if_neg h3',if_pos h5']
   refine jV aAC [[1,1,0,1,0,1,1,1,0,1,1],[1,0]] ?_
   dsimp only [aAC,cT,c7]
   simp only [Off.o,dU,jZ]
   repeat' (first|(simp only [cJ,↓wA,↓wC,wB,cL,cK,bP,bQ,bR,reduceIte,reduceCtorEq,aA,bT])|((first|apply cG|apply cH|apply cF)<;>intro h<;>try simp only [h]))
   refine eI _ (eZ 0 none [1] (es:=4) (xs:=dl Cs.o o.cs) rfl rfl) fun v1=>?_
   simp only [dY,↓wA,↓wC,wB,bP,bQ,reduceIte,reduceCtorEq]
   repeat' (first|(simp only [hi0,aB,hgn,hgs,h3,cJ,eL,fM,eJ,eQ,jK,jI,jF,gC,cO,h5,↓wA,↓wC,wB,cL,cK,bP,bQ,bR,reduceIte,reduceCtorEq,aA,bT])|(refine dL ?_)|(with_reducible refine cP ?_ ?_; focus (simp only [dX]; omega))|((first|apply cG|apply cH|apply cF)<;>intro h<;>try simp only [h]))
   refine c8 (gA 0 3 2 none [1] rfl rfl rfl rfl (by decide) rfl) ?_
   simp only [dY,↓wA,↓wC,wB,cL,cK,bP,bQ,bR,reduceIte,reduceCtorEq,aA,bT]
   repeat' (first|(simp only [hi0,aB,hgn,hgs,h3,cJ,eL,fM,eJ,eQ,jK,jI,jF,gC,cO,↓wA,↓wC,wB,cL,cK,bP,bQ,bR,reduceIte,reduceCtorEq,aA,bT])|((first|apply cG|apply cH|apply cF)<;>intro h<;>try simp only [h]))
   have e:Cs.p { i:=x.i,a:=x.a,d:=x.d + v,h:=x.h } (.sl true 1 (dl iD x.h))=Cs.o { x with d:=x.d + v }:=rfl
   by_cases hv:1<=v
   ·rw [decide_eq_true hv]
    all_goals refine pO (o':={ o with cs:=o.cs.set i { x with d:=x.d + v } }) (by rw [hO,if_pos hv]) ?_
    rw [e,gV]; rfl
   ·rw [decide_eq_false hv]
    exact l5 (by rw [hO,if_neg hv])
  | false =>
   have h5':=of_decide_eq_false h5
   cases h6:decide (k=6) with
   | true =>
    have h6':=of_decide_eq_true h6
    have hO:y5 o i x k v=if v=0/\eE o x=true then some (lJ o i x) else none:=by unfold y5; rw [if_neg h3',if_neg h5',if_pos h6']
    refine jV aAC [[1,1,0,1,0,1,1,1,1,1,0,0],[1,0]] ?_
    dsimp only [aAC,cT,c7]
    simp only [Off.o,dU,jZ]
    repeat' (first|(simp only [cJ,↓wA,↓wC,wB,cL,cK,bP,bQ,bR,reduceIte,reduceCtorEq,aA,bT])|((first|apply cG|apply cH|apply cF)<;>intro h<;>try simp only [h]))
    refine eI _ (eZ 0 none [1] (es:=4) (xs:=dl Cs.o o.cs) rfl rfl) fun v1=>?_
    simp only [dY,↓wA,↓wC,wB,cL,cK,bP,bQ,bR,reduceIte,reduceCtorEq,aA,bT]
    repeat' (first|(simp only [hi0,aB,hgn,hgs,h3,cJ,eL,fM,eJ,eQ,jK,jI,jF,gC,cO,h5,h6,↓wA,↓wC,wB,bP,bQ,reduceIte,reduceCtorEq])|(with_reducible refine cP ?_ ?_; focus (simp only [dX]; omega))|((first|apply cG|apply cH|apply cF)<;>intro h<;>try simp only [h]))
    refine c8 (gA 0 3 2 none [1] rfl rfl rfl rfl (by decide) rfl) ?_
    simp only [dY,↓wA,↓wC,wB,cL,cK,bP,bQ,bR,reduceIte,reduceCtorEq,aA,bT]
    by_cases hv:v=0
    ·have hvd:decide (v=0)=true:=decide_eq_true hv
     repeat' (first|(simp only [hi0,aB,hgn,hgs,h3,cJ,eL,fM,eJ,eQ,jK,jI,jF,gC,cO,hvd,↓wA,↓wC,wB,cL,cK,bP,bQ,bR,reduceIte,reduceCtorEq,aA,bT])|((first|apply cG|apply cH|apply cF)<;>intro h<;>try simp only [h]))
     refine lD (bx:=true) (r:=0) (aQs o i x ho hr) rfl rfl rfl ?_
     rintro x' _ ⟨rfl,hy⟩
     repeat' (first|(simp only [hi0,aB,hgn,hgs,h3,cJ,eL,fM,eJ,eQ,jK,jI,jF,gC,cO,hvd,↓wA,↓wC,wB,bP,bQ,reduceIte,reduceCtorEq])|((first|apply cG|apply cH|apply cF)<;>intro h<;>try simp only [h]))
     cases hB:eE o x with
     | true=>exact pO (by rw [hO,if_pos ⟨hv,hB⟩]) (hy hB)
     | false=>exact l5 (by rw [hO,if_neg (fun h=>by rw [hB] at h; cases h.2)])
    ·have hvd:decide (v=0)=false:=decide_eq_false hv
     repeat' (first|(simp only [hi0,aB,hgn,hgs,h3,cJ,eL,fM,eJ,eQ,jK,jI,jF,gC,cO,hvd,↓wA,↓wC,wB,cL,cK,bP,bQ,bR,reduceIte,reduceCtorEq,aA,bT])|((first|apply cG|apply cH|apply cF)<;>intro h<;>try simp only [h]))
     all_goals exact l5 (by rw [hO,if_neg (fun h=>hv h.1)])
   | false =>
    have h6':=of_decide_eq_false h6
    have hO:y5 o i x k v=none:=by unfold y5; rw [if_neg h3',if_neg h5',if_neg h6']
    refine jV aAC [[1,0]] ?_
    dsimp only [aAC,cT,c7]
    simp only [Off.o,dU,jZ]
    repeat' (first|(simp only [cJ,↓wA,↓wC,wB,cL,cK,bP,bQ,bR,reduceIte,reduceCtorEq,aA,bT])|((first|apply cG|apply cH|apply cF)<;>intro h<;>try simp only [h]))
    refine eI _ (eZ 0 none [1] (es:=4) (xs:=dl Cs.o o.cs) rfl rfl) fun v1=>?_
    simp only [dY,↓wA,↓wC,wB,cL,cK,bP,bQ,bR,reduceIte,reduceCtorEq,aA,bT]
    repeat' (first|(simp only [hi0,aB,hgn,hgs,h3,cJ,eL,fM,eJ,eQ,jK,jI,jF,gC,cO,h5,h6,↓wA,↓wC,wB,cL,cK,bP,bQ,bR,reduceIte,reduceCtorEq,aA,bT])|(with_reducible refine cP ?_ ?_; focus (simp only [dX]; omega))|((first|apply cG|apply cH|apply cF)<;>intro h<;>try simp only [h]))
    all_goals exact l5 hO
theorem aCH:∀ (xs:List D) (i:Nat) (y:D),(jA xs).setN i y=jA (xs.set i y)
 | [],i,y=>by cases i<;>rfl
 | x :: xs,0,y=>rfl
 | x :: xs,i + 1,y=>by
  have:=aCH xs i y
  simp only [jA,D.setN,List.set_cons_succ,this]
theorem dQ {xs:D}:(D.st xs).isStB=true:=rfl
theorem aNw (o:Off) (id a v:Int) (ho:dO o=true) (hv0:0<=v) (hv1:v<=20000):xR prog 107 true o.o [jZ 2 id a v] (aL7 (mkO o 2 id a v)):=by
 have hp:=eK ho
 have ho0:=fB ho
 have hA:=aAt o id ho0
 have hM:mkO o 2 id a v=if 0<=fU o.cs id then none else some { o with cs:=iO ⟨id,a,o.day + v,[]⟩ o.cs }:=if_pos rfl
 have h2:decide ((2:Int)=2)=true:=rfl
 cases hf:decide (0<=fU o.cs id) with
 | true =>
  have hf':=of_decide_eq_true hf
  rw [if_pos hf'] at hM
  refine jV tI [] ?_
  dsimp only [tI,cT,c7]
  simp only [Off.o,dU,jZ]
  repeat' (first|(simp only [cJ,dQ,hf,↓wA,↓wC,wB,cL,cK,bP,bQ,bR,reduceIte,reduceCtorEq,aA,bT])|(refine cM hA (congrArg (fun d:D=>some [d,.int .i64 id]) (aWH o)) rfl ?_)|((first|apply cG|apply cH|apply cF)<;>intro h<;>try simp only [h]))
  all_goals exact l5 hM
 | false =>
  have hf':=of_decide_eq_false hf
  rw [if_neg hf'] at hM
  refine jV tI [[1,1,0,0,1,0,1,1,1,1,0],[1,1,0,0,1,0,1,1,1,1,0],[1,1,0,0,1,0,1,1,1,1,0],[1,1,0,0,1,0,1,0]] ?_
  dsimp only [tI,cT,c7]
  simp only [Off.o,dU,jZ]
  repeat' (first|(simp only [cJ,dQ,hf,↓wA,↓wC,wB,cL,cK,bP,bQ,bR,reduceIte,reduceCtorEq,aA,bT])|(refine cM hA (congrArg (fun d:D=>some [d,.int .i64 id]) (aWH o)) rfl ?_)|((first|apply cG|apply cH|apply cF)<;>intro h<;>try simp only [h]))
  refine eI _ (eZ 0 none [1] (es:=4) (xs:=dl Cs.o o.cs) rfl rfl) fun v1=>?_
  simp only [dY,↓wA,↓wC,wB,bP,bQ,reduceIte,reduceCtorEq]
  repeat' (first|(simp only [cJ,↓wA,↓wC,wB,cL,cK,bP,bQ,bR,reduceIte,reduceCtorEq,aA,bT])|((first|apply cG|apply cH|apply cF)<;>intro h<;>try simp only [h]))
  refine dZ (fun j:Nat=>⟨[(0,.ptr 0 0 []),(3,.ptr 1 0 []),(6,.d (.int .i64 j))],[.box (dU o (.lnk 3 v1) (.sl true 1 (dl D.str o.led))),.box (jZ 2 id a v),.val (.sl true 4 (dl Cs.o o.cs)),.tag 2 v1]⟩) (fun j=>j<=o.cs.length/\∀ m x,m < j->o.cs[m]?=some x->x.i < id) (fun j=>o.cs.length - j) 0 (cU _ rfl ⟨⟨rfl,rfl⟩,⟨rfl,rfl⟩,⟨rfl,rfl⟩,trivial⟩) ⟨by omega,fun m x hm=>by omega⟩ ?_
  rintro j ⟨hj1,hj2⟩
  simp only [dU,jZ]
  have hcm:∀ x:Cs,Cs.o x=x.p (.sl true 1 (dl iD x.h)):=fun _=>rfl
  have hj0:(0:Int)<=(j:Int):=by omega
  by_cases hlt:j < o.cs.length
  ·obtain ⟨x,hr⟩:=dP hlt
   have hd:decide ((j:Int) < (o.cs.length:Int))=true:=decide_eq_true (by omega)
   cases hx:decide (x.i < id) with
   | true =>
    repeat' (first|(simp only [cJ,cO,c6,hd,hx,hr,hj0,hcm,aB,aC,nV,nP,↓wA,↓wC,wB,cL,cK,bP,bQ,bR,reduceIte,reduceCtorEq,aA,bT])|(with_reducible refine cP ?_ ?_; focus (simp only [dX]; omega))|((first|apply cG|apply cH|apply cF)<;>intro h<;>try simp only [h]))
    refine ⟨j + 1,(cU _ rfl ⟨⟨rfl,rfl⟩,⟨rfl,rfl⟩,⟨rfl,rfl⟩,trivial⟩),⟨by omega,fun m y hm hy=>?_⟩,by omega⟩
    by_cases e:m=j
    ·subst e
     rw [hr] at hy
     injection hy with hy
     rw [<- hy]; exact of_decide_eq_true hx
    ·exact hj2 m y (by omega) hy
   | false =>
    have hpl:q9 id o.cs=j:=rT o.cs j hj1 hj2 (fun y hy=>by rw [hr] at hy; injection hy with hy; rw [<- hy]; exact of_decide_eq_false hx)
    repeat' (first|(simp only [cJ,cO,c6,hd,hx,hr,hj0,hcm,aB,aC,nV,nP,↓wA,↓wC,wB,cL,cK,bP,bQ,bR,reduceIte,reduceCtorEq,aA,bT])|(refine dL ?_)|(with_reducible refine cP ?_ ?_; focus (simp only [dX]; omega))|((first|apply cG|apply cH|apply cF)<;>intro h<;>try simp only [h]))
    have hpe:iO ⟨id,a,o.day + v,[]⟩ o.cs=o.cs.take j ++ ⟨id,a,o.day + v,[]⟩ :: o.cs.drop j:=by unfold iO; rw [hpl]
    refine aJy _ (eZ 5 (some 0) [3] (es:=1) (xs:=.nil) rfl rfl) fun v2=>?_
    simp only [dY,D.nth,aJ,kC,D.setN,↓wA,↓wC,wB,cL,cK,bP,bQ,bR,reduceIte,reduceCtorEq,aA,bT]
    refine aGY 5 ?_
    simp only [aHw,wV,tT,D.unown,↓wA,↓wC,wB,cL,cK,bP,bQ,bR,reduceIte,reduceCtorEq,aA,bT]
    have hI:=aC4 (o.cs.map Cs.o) (Cs.p ⟨id,a,o.day + v,[]⟩ (.lnk 7 v2)) (fun d hd=>by obtain ⟨y,_,rfl⟩:=aY.1 hd; rfl) rfl j (by simpa using hj1) (by simp; omega)
    refine lD (bx:=false) (r:=2) hI rfl rfl rfl ?_
    rintro _ _ ⟨⟨u,rfl⟩,rfl⟩
    have hnth:(jA ((o.cs.map Cs.o).take j ++ Cs.p ⟨id,a,o.day + v,[]⟩ (.lnk 7 v2) :: (o.cs.map Cs.o).drop j)).nth j=some (Cs.p ⟨id,a,o.day + v,[]⟩ (.lnk 7 v2)):=by
     rw [qM,List.getElem?_append_right (by simp; omega)]
     simp [aG hj1]
    have hset:(jA ((o.cs.map Cs.o).take j ++ Cs.p ⟨id,a,o.day + v,[]⟩ (.lnk 7 v2) :: (o.cs.map Cs.o).drop j)).setN j (Cs.p ⟨id,a,o.day + v,[]⟩ (.sl true 1 .nil))=dl Cs.o (iO ⟨id,a,o.day + v,[]⟩ o.cs):=by
     rw [aCH,aM _ _ (by simp; omega),hpe]
     simp [aG hj1,dl]
     rfl
    generalize jA ((o.cs.map Cs.o).take j ++ Cs.p ⟨id,a,o.day + v,[]⟩ (.lnk 7 v2) :: (o.cs.map Cs.o).drop j)=NL at hnth hset
    repeat' (first|(simp only [cJ,↓wA,↓wC,wB,cL,cK,bP,bQ,bR,reduceIte,reduceCtorEq,aA,bT])|((first|apply cG|apply cH|apply cF)<;>intro h<;>try simp only [h]))
    refine eI _ (eZ 0 none [1] (es:=4) (xs:=NL) rfl rfl) fun v3=>?_
    simp only [dY,↓wA,↓wC,wB,bQ,reduceIte,reduceCtorEq,aA]
    refine c8 (gA 9 7 6 (some j) [3] rfl (by simp only [kE,hnth,aL,eJ]) rfl rfl (by decide) rfl) ?_
    simp only [dY,hnth,aJ,eQ,hset,wB,bQ,reduceIte]
    refine c8 (gA 0 10 9 none [1] rfl rfl rfl rfl (by decide) rfl) ?_
    simp only [dY,↓wA,↓wC,wB,cL,cK,bP,bQ,bR,reduceIte,reduceCtorEq,aA,bT]
    repeat' (first|(simp only [cJ,wB,reduceIte])|((first|apply cG|apply cH|apply cF)<;>intro h<;>try simp only [h]))
    all_goals exact pO hM rfl
  ·have e:j=o.cs.length:=by omega
   have hd:decide ((j:Int) < (o.cs.length:Int))=false:=decide_eq_false (by omega)
   have hpl:q9 id o.cs=j:=rT o.cs j hj1 hj2 (fun y hy=>by have:=cV hy; omega)
   repeat' (first|(simp only [cJ,cO,c6,hd,hj0,hcm,aB,aC,nV,nP,↓wA,↓wC,wB,cL,cK,bP,bQ,bR,reduceIte,reduceCtorEq,aA,bT])|(refine dL ?_)|(with_reducible refine cP ?_ ?_; focus (simp only [dX]; omega))|((first|apply cG|apply cH|apply cF)<;>intro h<;>try simp only [h]))
   have hpe:iO ⟨id,a,o.day + v,[]⟩ o.cs=o.cs.take j ++ ⟨id,a,o.day + v,[]⟩ :: o.cs.drop j:=by unfold iO; rw [hpl]
   refine aJy _ (eZ 5 (some 0) [3] (es:=1) (xs:=.nil) rfl rfl) fun v2=>?_
   simp only [dY,D.nth,aJ,kC,D.setN,↓wA,↓wC,wB,cL,cK,bP,bQ,bR,reduceIte,reduceCtorEq,aA,bT]
   refine aGY 5 ?_
   simp only [aHw,wV,tT,D.unown,↓wA,↓wC,wB,cL,cK,bP,bQ,bR,reduceIte,reduceCtorEq,aA,bT]
   have hI:=aC4 (o.cs.map Cs.o) (Cs.p ⟨id,a,o.day + v,[]⟩ (.lnk 7 v2)) (fun d hd=>by obtain ⟨y,_,rfl⟩:=aY.1 hd; rfl) rfl j (by simpa using hj1) (by simp; omega)
   refine lD (bx:=false) (r:=2) hI rfl rfl rfl ?_
   rintro _ _ ⟨⟨u,rfl⟩,rfl⟩
   have hnth:(jA ((o.cs.map Cs.o).take j ++ Cs.p ⟨id,a,o.day + v,[]⟩ (.lnk 7 v2) :: (o.cs.map Cs.o).drop j)).nth j=some (Cs.p ⟨id,a,o.day + v,[]⟩ (.lnk 7 v2)):=by
    rw [qM,List.getElem?_append_right (by simp; omega)]
    simp [aG hj1]
   have hset:(jA ((o.cs.map Cs.o).take j ++ Cs.p ⟨id,a,o.day + v,[]⟩ (.lnk 7 v2) :: (o.cs.map Cs.o).drop j)).setN j (Cs.p ⟨id,a,o.day + v,[]⟩ (.sl true 1 .nil))=dl Cs.o (iO ⟨id,a,o.day + v,[]⟩ o.cs):=by
    rw [aCH,aM _ _ (by simp; omega),hpe]
    simp [aG hj1,dl]
    rfl
   generalize jA ((o.cs.map Cs.o).take j ++ Cs.p ⟨id,a,o.day + v,[]⟩ (.lnk 7 v2) :: (o.cs.map Cs.o).drop j)=NL at hnth hset
   repeat' (first|(simp only [cJ,↓wA,↓wC,wB,cL,cK,bP,bQ,bR,reduceIte,reduceCtorEq,aA,bT])|((first|apply cG|apply cH|apply cF)<;>intro h<;>try simp only [h]))
   refine eI _ (eZ 0 none [1] (es:=4) (xs:=NL) rfl rfl) fun v3=>?_
   simp only [dY,↓wA,↓wC,wB,bQ,reduceIte,reduceCtorEq,aA]
   refine c8 (gA 9 7 6 (some j) [3] rfl (by simp only [kE,hnth,aL,eJ]) rfl rfl (by decide) rfl) ?_
   simp only [dY,hnth,aJ,eQ,hset,wB,bQ,reduceIte]
   refine c8 (gA 0 10 9 none [1] rfl rfl rfl rfl (by decide) rfl) ?_
   simp only [dY,↓wA,↓wC,wB,cL,cK,bP,bQ,bR,reduceIte,reduceCtorEq,aA,bT]
   repeat' (first|(simp only [cJ,wB,reduceIte])|((first|apply cG|apply cH|apply cF)<;>intro h<;>try simp only [h]))
   all_goals exact pO hM rfl
theorem aDm (o:Off) (k id a v:Int) (ho:dO o=true) (hv0:0<=v) (hv1:v<=20000):xR prog 107 true o.o [jZ k id a v] (aL7 (mkO o k id a v)):=by
 have hp:=eK ho
 have ho0:=fB ho
 have hA:=aAt o id ho0
 cases k2:decide (k=2) with
 | true =>
  have:=of_decide_eq_true k2
  subst this
  exact aNw o id a v ho hv0 hv1
 | false =>
  have k2':=of_decide_eq_false k2
  cases ha:decide (a=0) with
  | false =>
   have ha':=of_decide_eq_false ha
   have hM:mkO o k id a v=none:=by unfold mkO; rw [if_neg k2',if_pos ha']
   refine jV tI [] ?_
   dsimp only [tI,cT,c7]
   simp only [Off.o,dU,jZ]
   repeat' (first|(simp only [cJ,dQ,k2,ha,↓wA,↓wC,wB,cL,cK,bP,bQ,bR,reduceIte,reduceCtorEq,aA,bT])|(refine cM hA (congrArg (fun d:D=>some [d,.int .i64 id]) (aWH o)) rfl ?_)|((first|apply cG|apply cH|apply cF)<;>intro h<;>try simp only [h]))
   all_goals exact l5 hM
  | true =>
   have ha':=of_decide_eq_true ha
   have hM0:mkO o k id a v=mkO o k id a v:=rfl
   conv at hM0=>rhs; unfold mkO
   rw [if_neg k2',if_neg (show ¬ a≠0 from fun h=>h ha')] at hM0
   cases k1:decide (k=1) with
   | true =>
    have k1':=of_decide_eq_true k1
    rw [if_pos k1'] at hM0
    refine jV tI [] ?_
    dsimp only [tI,cT,c7]
    simp only [Off.o,dU,jZ]
    cases hi:decide (id=0) with
    | true =>
     have hi':=of_decide_eq_true hi
     repeat' (first|(simp only [cJ,dQ,k2,ha,k1,hi,↓wA,↓wC,wB,cL,cK,bP,bQ,bR,reduceIte,reduceCtorEq,aA,bT])|(refine dL ?_)|(refine cM hA (congrArg (fun d:D=>some [d,.int .i64 id]) (aWH o)) rfl ?_)|(with_reducible refine cP ?_ ?_; focus (simp only [dX]; omega))|((first|apply cG|apply cH|apply cF)<;>intro h<;>try simp only [h]))
     by_cases hv:1<=v
     ·rw [decide_eq_true hv]
      exact pO (o':={ o with day:=o.day + v }) (by rw [hM0,if_pos ⟨hi',hv⟩]) rfl
     ·rw [decide_eq_false hv]
      exact l5 (by rw [hM0,if_neg (fun h=>hv h.2)])
    | false =>
     have hi':=of_decide_eq_false hi
     repeat' (first|(simp only [cJ,dQ,k2,ha,k1,hi,↓wA,↓wC,wB,cL,cK,bP,bQ,bR,reduceIte,reduceCtorEq,aA,bT])|(refine dL ?_)|(refine cM hA (congrArg (fun d:D=>some [d,.int .i64 id]) (aWH o)) rfl ?_)|(with_reducible refine cP ?_ ?_; focus (simp only [dX]; omega))|((first|apply cG|apply cH|apply cF)<;>intro h<;>try simp only [h]))
     all_goals exact l5 (by rw [hM0,if_neg (fun h=>hi' h.1)])
   | false =>
    have k1':=of_decide_eq_false k1
    rw [if_neg k1'] at hM0
    cases k4:decide (k=4) with
    | true =>
     have k4':=of_decide_eq_true k4
     rw [if_pos k4'] at hM0
     have hnd:∀ x∈o.cs,x.h.Nodup:=fun x hx=>aG2 (aJd (fH (hp.2.2.2.2.2.2.2.2.2 x hx)).2.2.2.2.2.2.2.2)
     refine jV tI [] ?_
     dsimp only [tI,cT,c7]
     simp only [Off.o,dU,jZ]
     cases hi:decide (id=0) with
     | true =>
      have hi':=of_decide_eq_true hi
      repeat' (first|(simp only [cJ,dQ,k2,ha,k1,k4,hi,↓wA,↓wC,wB,cL,cK,bP,bQ,bR,reduceIte,reduceCtorEq,aA,bT])|(refine cM hA (congrArg (fun d:D=>some [d,.int .i64 id]) (aWH o)) rfl ?_)|((first|apply cG|apply cH|apply cF)<;>intro h<;>try simp only [h]))
      refine mQ (bx:=true) (r:=0) (aIu o v ho0 hnd) rfl rfl rfl ?_
      repeat' (first|(simp only [cJ,hi,↓wA,↓wC,wB,cL,cK,bP,bQ,bR,reduceIte,reduceCtorEq,aA,bT])|((first|apply cG|apply cH|apply cF)<;>intro h<;>try simp only [h]))
      cases hh:vU v o.cs with
      | true=>exact pO (o':={ o with cs:=o.cs.map (tU v) }) (by rw [hM0,if_pos ⟨hi',hh⟩]) rfl
      | false=>exact l5 (by rw [hM0,if_neg (fun h=>by rw [hh] at h; cases h.2)])
     | false =>
      have hi':=of_decide_eq_false hi
      repeat' (first|(simp only [cJ,dQ,k2,ha,k1,k4,hi,↓wA,↓wC,wB,cL,cK,bP,bQ,bR,reduceIte,reduceCtorEq,aA,bT])|(refine cM hA (congrArg (fun d:D=>some [d,.int .i64 id]) (aWH o)) rfl ?_)|((first|apply cG|apply cH|apply cF)<;>intro h<;>try simp only [h]))
      all_goals exact l5 (by rw [hM0,if_neg (fun h=>hi' h.1)])
    | false =>
     have k4':=of_decide_eq_false k4
     rw [if_neg k4'] at hM0
     refine jV tI [] ?_
     dsimp only [tI,cT,c7]
     simp only [Off.o,dU,jZ]
     cases hf:decide (0<=fU o.cs id) with
     | false =>
      have hf':=of_decide_eq_false hf
      rw [if_neg hf'] at hM0
      repeat' (first|(simp only [cJ,dQ,k2,ha,k1,k4,hf,↓wA,↓wC,wB,cL,cK,bP,bQ,bR,reduceIte,reduceCtorEq,aA,bT])|(refine cM hA (congrArg (fun d:D=>some [d,.int .i64 id]) (aWH o)) rfl ?_)|((first|apply cG|apply cH|apply cF)<;>intro h<;>try simp only [h]))
      all_goals exact l5 hM0
     | true =>
      have hf':=of_decide_eq_true hf
      rw [if_pos hf'] at hM0
      rcases mP o.cs id with ⟨_,hn⟩|⟨i,x,hi,hr,_⟩
      ·exact absurd hf' (of_decide_eq_false hn)
      ·rw [hi,aB,hr] at hM0
       rw [hi] at hA hf
       have hS:=aHd o i x k id a v ho hr hv0 hv1
       repeat' (first|(simp only [cJ,dQ,k2,ha,k1,k4,hf,↓wA,↓wC,wB,cL,cK,bP,bQ,bR,reduceIte,reduceCtorEq,aA,bT])|(refine cM hA (congrArg (fun d:D=>some [d,.int .i64 id]) (aWH o)) rfl ?_)|((first|apply cG|apply cH|apply cF)<;>intro h<;>try simp only [h]))
       refine lD (bx:=true) (r:=0) hS rfl rfl rfl ?_
       rintro x' _ ⟨rfl,hx'⟩
       repeat' (first|(simp only [cJ,hf,↓wA,↓wC,wB,bP,bQ,reduceIte,reduceCtorEq])|((first|apply cG|apply cH|apply cF)<;>intro h<;>try simp only [h]))
       have hM1:mkO o k id a v=y5 o i x k v:=hM0
       all_goals exact ⟨by rw [hM1],fun o' h=>hx' o' (by rw [<- hM1]; exact h)⟩
def aDr:Off:=⟨0,[],0,0,[]⟩
theorem aG3 (v:Int) (h:List Int):(kS v h).length=h.length + 1:=by simp [kS]; omega
theorem aBk {xs:List Cs} {i:Nat} {y:Cs} (h:o5 xs) (hy:y.ok0):o5 (xs.set i y):=⟨by simpa using h.1,fun z hz=>by
 rcases List.mem_or_eq_of_mem_set hz with hz|hz
 ·exact h.2 z hz
 ·rw [hz]; exact hy⟩
theorem aOv {o o':Off} {k id a v:Int} (ho:dO o=true) (hx:∀ (i:Nat) (x:Cs),o.cs[i]?=some x->gN x=true) (h:mkO o k id a v=some o'):o'.ok0:=by
 have hp:=eK ho
 have h0:=fB ho
 unfold mkO at h
 by_cases k2:k=2
 ·rw [if_pos k2] at h
  split at h
  ·cases h
  ·injection h with h
   subst h
   refine ⟨⟨?_,fun x hx=>?_⟩,h0.2⟩
   ·simp [iO]; omega
   ·rcases bG.1 hx with hx|hx
    ·exact h0.1.2 x (List.mem_of_mem_take hx)
    ·rcases List.mem_cons.1 hx with rfl|hx
     ·simp [Cs.ok0]
     ·exact h0.1.2 x (List.mem_of_mem_drop hx)
 ·rw [if_neg k2] at h
  split at h
  ·cases h
  split at h
  ·split at h
   ·injection h with h; subst h; exact h0
   ·cases h
  split at h
  ·split at h
   ·injection h with h
    subst h
    refine ⟨⟨by simpa using h0.1.1,fun x hx=>?_⟩,h0.2⟩
    obtain ⟨y,hy,rfl⟩:=aY.1 hx
    have h1:=h0.1.2 y hy
    have h2:=aZ (fun n=>!decide (n=v)) y.h
    exact Nat.le_trans h2 h1
   ·cases h
  split at h
  ·split at h
   ·rename_i x hr
    have hxc:=fH (hx _ x hr)
    split at h
    ·split at h
     ·cases h
     ·injection h with h
      subst h
      refine ⟨aBk h0.1 ?_,h0.2⟩
      show (kS v x.h).length<=1048576
      rw [aG3]; omega
    ·split at h
     ·split at h
      ·injection h with h
       subst h
       refine ⟨aBk h0.1 ?_,h0.2⟩
       show x.h.length<=1048576
       omega
      ·cases h
     ·split at h
      ·split at h
       ·injection h with h
        subst h
        have he:∀ i,o5 (o.cs.eraseIdx i):=fun i=>⟨by have:=List.length_eraseIdx_le o.cs i; omega,fun y hy=>h0.1.2 y (List.mem_of_mem_eraseIdx hy)⟩
        unfold lJ
        split
        ·exact ⟨he _,h0.2⟩
        ·split
         ·exact ⟨he _,h0.2⟩
         ·refine ⟨he _,by simp; omega,fun s hs=>?_⟩
          rcases bG.1 hs with hs|hs
          ·exact h0.2.2 s hs
          ·rw [List.mem_singleton.1 hs]
           have h1:=eS x.i (by simp only [dX]; omega)
           have h2:=eS o.day (by simp only [dX]; omega)
           simp [l8]; omega
       ·cases h
      ·cases h
   ·cases h
  ·cases h
def tD:Option Off->List D
 | some o'=>[o'.o,.bool true]
 | none=>[aDr.o,.bool false]
theorem aGP (o:Off) (k id a v:Int) (ho:o.ok0):Fn prog 72 [o.s,jZ k id a v] (fun rs=>rs=tD (gY o k id a v)):=by
 have hV:=jT o ho
 have hW:=e8 v 0 20000
 cases hv:dO o with
 | false =>
  have hR:gY o k id a v=none:=by unfold gY; rw [hv]; rfl
  rw [hR]
  rw [hv] at hV
  refine cW aJ5 [] ?_
  dsimp only [aJ5,cT,c7]
  simp only [jZ]
  repeat' (first|(simp only [aWu,aWw,↓dF,cJ,↓wA,↓wC,wB,cL,cK,bP,bQ,bR,reduceIte,reduceCtorEq,aA,bT,dE])|(refine cI hV (by simp [dB,dI,aWv]) rfl ?_)|((first|apply cG|apply cH|apply cF)<;>intro h<;>try simp only [h]))
  all_goals rfl
 | true =>
  rw [hv] at hV
  cases hw:dC v 0 20000 with
  | false =>
   have hR:gY o k id a v=none:=by unfold gY; rw [hv,hw]; rfl
   rw [hR]
   rw [hw] at hW
   refine cW aJ5 [] ?_
   dsimp only [aJ5,cT,c7]
   simp only [jZ]
   repeat' (first|(simp only [aWu,aWw,↓dF,cJ,↓wA,↓wC,wB,cL,cK,bP,bQ,bR,reduceIte,reduceCtorEq,aA,bT,dE])|(refine cI (hW) rfl rfl ?_)|(refine cM (hW) rfl rfl ?_)|(refine cI hV (by simp [dB,dI,aWv]) rfl ?_)|((first|apply cG|apply cH|apply cF)<;>intro h<;>try simp only [h]))
   all_goals rfl
  | true =>
   have hwi:=kM.1 hw
   rw [hw] at hW
   have hR:gY o k id a v=(mkO o k id a v).filter dO:=by unfold gY; rw [hv,hw]; rfl
   have hC:=vW o ho
   have hS:=aDm o k id a v hv hwi.1 hwi.2
   have hno:∀ q:Off,q.o.noOwn=false:=fun q=>by simp [Off.o,dU,D.noOwn]
   have hst:∀ q:Off,q.o.isStB=true:=fun q=>rfl
   refine cW aJ5 [] ?_
   dsimp only [aJ5,cT,c7]
   simp only [jZ]
   repeat' (first|(simp only [aWu,aWw,aWP,aWM,aWz,hno,↓dF,cJ,↓wA,↓wC,wB,cL,cK,bP,bQ,bR,reduceIte,reduceCtorEq,aA,bT,dE])|(refine cI (hW) rfl rfl ?_)|(refine cM (hW) rfl rfl ?_)|(refine cI hV (by simp [dB,dI,aWv]) rfl ?_)|(refine cI hC (by simp [dB,dI,aWv]) rfl ?_)|((first|apply cG|apply cH|apply cF)<;>intro h<;>try simp only [h]))
   refine lD (bx:=true) (r:=4) hS rfl rfl rfl ?_
   rintro x' _ ⟨rfl,hx'⟩
   rw [hR]
   cases hM:mkO o k id a v with
   | none =>
    repeat' (first|(simp only [dQ,cJ,Option.isSome_none,↓wA,↓wC,wB,cL,cK,bP,bQ,bR,reduceIte,reduceCtorEq,aA,bT,dE])|((first|apply cG|apply cH|apply cF)<;>intro h<;>try simp only [h]))
    all_goals rfl
   | some o' =>
    obtain rfl:=hx' o' hM
    have hV':=jT o' (aOv hv (fun i x hr=>(eK hv).2.2.2.2.2.2.2.2.2 x (aD hr)) hM)
    cases hv':dO o' with
    | true =>
     rw [hv'] at hV'
     have hr:tD (aQ dO (some o'))=[o'.o,.bool true]:=by simp [aQ,hv',tD]
     rw [hr]
     repeat' (first|(simp only [hst,cJ,bB,aWP,aWM,hno,↓dF,↓wA,↓wC,wB,bP,bQ,reduceIte,aA,dE])|(refine cI hV' (congrArg (fun d:D=>some [d]) (aWH o')) rfl ?_)|((first|apply cG|apply cH|apply cF)<;>intro h<;>try simp only [h]))
     exact ⟨_,rfl,rfl,rfl,rfl,rfl⟩
    | false =>
     rw [hv'] at hV'
     have hr:tD (aQ dO (some o'))=[aDr.o,.bool false]:=by simp [aQ,hv',tD]
     rw [hr]
     repeat' (first|(simp only [hst,cJ,bB,aWM,hno,↓wA,↓wC,wB,bP,bQ,reduceIte,aA,dE])|(refine cI hV' (congrArg (fun d:D=>some [d]) (aWH o')) rfl ?_)|((first|apply cG|apply cH|apply cF)<;>intro h<;>try simp only [h]))
     all_goals rfl
structure Stp where
 k:Int
 i:Int
 a:Int
 v:Int
def Stp.d (s:Stp):D:=jZ s.k s.i s.a s.v
theorem x7 {o q:Off} {k id a v:Int} (h:gY o k id a v=some q):dO q=true:=by
 unfold gY at h
 split at h
 ·cases hm:mkO o k id a v with
  | none=>rw [hm] at h; cases h
  | some o' =>
   rw [hm] at h
   simp only [aQ] at h
   split at h
   ·rename_i hv; injection h with h; rw [<- h]; exact hv
   ·cases h
 ·cases h
def zO:D:=.st (.cons (.int .i64 0) (.cons (.sl true 4 .nil) (.cons (.int .i64 0) (.cons (.int .i64 0) (.cons (.sl true 1 .nil) .nil)))))
def Off.w (o:Off):D:=dU o (.sl true 4 (dl Cs.s o.cs)) (.sl true 1 (dl D.str o.led))
def aFT (o:Off) (j:Nat) (l:List Ob):St:=⟨[(1,.d (.ptr o.s)),(2,.ptr 1 0 []),(3,.ptr j 0 [])],.dead :: .box zO :: (l ++ [.box (dU o (.sl true 4 .nil) (.sl true 1 (dl D.str o.led)))])⟩
theorem aQy {F:(St->Prop)->Prop} {Q:St->Prop} (J:St->Prop) (h:F J) (h2:∀ s',J s'->∃ s1,gO s' s1/\Q s1):onJ F Q:=⟨J,h,h2⟩
theorem u5 (v:List Int) (hlen:v.length<=1048576):Fn prog 84 [.sl false 1 (dl iD v)] (fun rs=>rs=[.sl true 1 (dl iD v)]):=by
 refine cW aU6 [] ?_
 dsimp only [aU6,cT,c7]
 simp only [cO,↓wA,↓wC,wB,cL,cK,bP,bQ,bR,reduceIte,reduceCtorEq,aA,bT,dE]
 refine cQ ⟨by omega,by omega⟩ ?_
 simp only [↓wA,↓wC,wB,cL,cK,bP,bQ,bR,reduceIte,reduceCtorEq,aA,bT,dE]
theorem j9 (o:Off) (ho:o.ok0):Fn prog 52 [o.s] (fun rs=>rs=[o.w]):=by
 have hlen:=ho.1.1
 have hlen2:=ho.2.1
 refine cW aTJ [[1,1,0,1,0,0,1,0,0,1],[1,1,0,1,0,0,1,0,0,1],[1,0]] ?_
 dsimp only [aTJ,cT,c7]
 simp only [Off.s,dU]
 repeat' (first|(simp only [cX,cR,cJ,cO,↓wA,↓wC,wB,cL,cK,bP,bQ,bR,reduceIte,reduceCtorEq,aA,bT,dE])|((first|apply cG|apply cH|apply cF)<;>intro h<;>try simp only [h]))
 refine c8 (gI 0 rfl) ?_
 simp only [cL,cK,D.unown,fS,fA,cX,cR,cJ,cO,↓wA,↓wC,wB,cL,cK,bP,bQ,bR,reduceIte,reduceCtorEq,aA,bT,dE]
 refine aQy (fun s=>gO s (aFT o 2 [])\/gO s (aFT o 3 [.dead])\/gO s (aFT o 4 [.dead,.dead])\/gO s (aFT o 5 [.dead,.dead,.dead])) ?_ ?_
 ·repeat' (first
   |(with_reducible refine aV ?_ ?_)
   |(with_reducible refine cQ ?_ ?_; focus omega))
  all_goals (first|exact .inl (cU _ rfl ⟨⟨rfl,rfl⟩,⟨rfl,rfl⟩,⟨rfl,rfl⟩,trivial⟩)|exact .inr (.inl (cU _ rfl ⟨⟨rfl,rfl⟩,⟨rfl,rfl⟩,⟨rfl,rfl⟩,trivial⟩))|exact .inr (.inr (.inl (cU _ rfl ⟨⟨rfl,rfl⟩,⟨rfl,rfl⟩,⟨rfl,rfl⟩,trivial⟩)))|exact .inr (.inr (.inr (cU _ rfl ⟨⟨rfl,rfl⟩,⟨rfl,rfl⟩,⟨rfl,rfl⟩,trivial⟩)))|trace_state)
 ·rintro s' (h|h|h|h)
  ·refine ⟨_,h,?_⟩
   simp only [aFT,aF,aH,↓wA,↓wC,wB,cL,cK,bP,bQ,bR,reduceIte,reduceCtorEq,aA,bT,dE]
   refine dR o.cs.length (fun i:Nat=>⟨[(1,.d (.ptr o.s)),(2,.ptr 1 0 []),(3,.ptr 2 0 []),(4,.d (.int .i64 i))],.dead :: .box zO :: ([] ++ [.box (dU o (.sl true 4 (dl Cs.s (o.cs.take i))) (.sl true 1 (dl D.str o.led)))])⟩) (fun _=>True) ?_ trivial ?_ ?_
   ·exact (cU _ rfl ⟨⟨rfl,rfl⟩,⟨rfl,rfl⟩,⟨rfl,rfl⟩,⟨rfl,rfl⟩,trivial⟩)
   ·intro i hlt _ hd h0
    obtain ⟨x,hr⟩:=dP hlt
    have h1:Fn prog 84 [.sl false 1 (dl iD x.h)] (fun rs=>rs=[.sl false 1 (dl iD x.h)]):=by
     have h:=fY (u5 x.h (ho.1.2 x (aD hr)))
     simpa [D.unown,dM] using h
    simp only [Off.s,dU,aF,aH]
    repeat' (first|(simp only [cO,hd,h0,c6,aB,hr,aC,cJ,cX,cR,↓iH,aWD,aWC,↓wA,↓wC,wB,cL,cK,bP,bQ,bR,reduceIte,reduceCtorEq,aA,bT,dE])|(refine cP (by simp only [dX]; omega) ?_)|((first|apply cG|apply cH|apply cF)<;>intro h<;>try simp only [h]))
    refine c8 (gI 3 rfl) ?_
    simp only [cL,cK,aWE,↓wA,↓wC,wB,cL,cK,bP,bQ,bR,reduceIte,reduceCtorEq,aA,bT,dE]
    refine eI _ (eZ 2 none [1] (es:=4) (xs:=dl Cs.s (o.cs.take i)) rfl rfl) fun v1=>?_
    simp only [dY,Cs.s,Cs.p,cX,cR,cJ,cO,↓wA,↓wC,wB,cL,cK,bP,bQ,bR,reduceIte,reduceCtorEq,aA,bT,dE]
    repeat' (first|(simp only [cO,hd,h0,cJ,cX,cR,cY,↓wA,↓wC,wB,cL,cK,bP,bQ,bR,reduceIte,reduceCtorEq,aA,bT,dE])|(refine dL ?_)|(refine cI h1 rfl rfl ?_)|(with_reducible refine cQ ?_ ?_; focus omega)|(refine cP (by simp only [dX]; omega) ?_)|((first|apply cG|apply cH|apply cF)<;>intro h<;>try simp only [h]))
    refine cQ (by simp) ?_
    have hl:(o.cs.take i).length=i:=by simp; omega
    refine cQ (by rw [hl]; omega) ?_
    refine cP (by simp only [dX]; omega) ?_
    refine ⟨i + 1,?_,by omega,by omega⟩
    have happ:(dl Cs.s (o.cs.take i)).app ((D.st (.cons (.int .i64 x.i) (.cons (.int .i64 x.a) (.cons (.int .i64 x.d) (.cons (.sl false 1 (dl iD x.h)) .nil))))).cons .nil)=dl Cs.s (o.cs.take (i + 1)):=(iJ (f:=Cs.s) (o.cs.take i) x).trans (by rw [e7 hr])
    rw [happ]
    exact (cU _ rfl ⟨⟨rfl,rfl⟩,⟨rfl,rfl⟩,⟨rfl,rfl⟩,⟨rfl,rfl⟩,trivial⟩)
   ·intro _ hd
    rw [aI]
    simp only [Off.s,dU,aF,aH]
    repeat' (first|(simp only [cO,hd,cJ,↓wA,↓wC,wB,cL,cK,bP,bQ,bR,reduceIte,reduceCtorEq,aA,bT,dE])|((first|apply cG|apply cH|apply cF)<;>intro h<;>try simp only [h]))
    exact cQ (cX _) (cQ rfl (cQ rfl rfl))
  ·refine ⟨_,h,?_⟩
   simp only [aFT,aF,aH,↓wA,↓wC,wB,cL,cK,bP,bQ,bR,reduceIte,reduceCtorEq,aA,bT,dE]
   refine dR o.cs.length (fun i:Nat=>⟨[(1,.d (.ptr o.s)),(2,.ptr 1 0 []),(3,.ptr 3 0 []),(4,.d (.int .i64 i))],.dead :: .box zO :: ([.dead] ++ [.box (dU o (.sl true 4 (dl Cs.s (o.cs.take i))) (.sl true 1 (dl D.str o.led)))])⟩) (fun _=>True) ?_ trivial ?_ ?_
   ·exact (cU _ rfl ⟨⟨rfl,rfl⟩,⟨rfl,rfl⟩,⟨rfl,rfl⟩,⟨rfl,rfl⟩,trivial⟩)
   ·intro i hlt _ hd h0
    obtain ⟨x,hr⟩:=dP hlt
    have h1:Fn prog 84 [.sl false 1 (dl iD x.h)] (fun rs=>rs=[.sl false 1 (dl iD x.h)]):=by
     have h:=fY (u5 x.h (ho.1.2 x (aD hr)))
     simpa [D.unown,dM] using h
    simp only [Off.s,dU,aF,aH]
    repeat' (first|(simp only [cO,hd,h0,c6,aB,hr,aC,cJ,cX,cR,↓iH,aWD,aWC,↓wA,↓wC,wB,cL,cK,bP,bQ,bR,reduceIte,reduceCtorEq,aA,bT,dE])|(refine cP (by simp only [dX]; omega) ?_)|((first|apply cG|apply cH|apply cF)<;>intro h<;>try simp only [h]))
    refine c8 (gI 4 rfl) ?_
    simp only [cL,cK,aWE,↓wA,↓wC,wB,cL,cK,bP,bQ,bR,reduceIte,reduceCtorEq,aA,bT,dE]
    refine eI _ (eZ 3 none [1] (es:=4) (xs:=dl Cs.s (o.cs.take i)) rfl rfl) fun v1=>?_
    simp only [dY,Cs.s,Cs.p,cX,cR,cJ,cO,↓wA,↓wC,wB,cL,cK,bP,bQ,bR,reduceIte,reduceCtorEq,aA,bT,dE]
    repeat' (first|(simp only [cO,hd,h0,cJ,cX,cR,cY,↓wA,↓wC,wB,cL,cK,bP,bQ,bR,reduceIte,reduceCtorEq,aA,bT,dE])|(refine dL ?_)|(refine cI h1 rfl rfl ?_)|(with_reducible refine cQ ?_ ?_; focus omega)|(refine cP (by simp only [dX]; omega) ?_)|((first|apply cG|apply cH|apply cF)<;>intro h<;>try simp only [h]))
    refine cQ (by simp) ?_
    have hl:(o.cs.take i).length=i:=by simp; omega
    refine cQ (by rw [hl]; omega) ?_
    refine cP (by simp only [dX]; omega) ?_
    refine ⟨i + 1,?_,by omega,by omega⟩
    have happ:(dl Cs.s (o.cs.take i)).app ((D.st (.cons (.int .i64 x.i) (.cons (.int .i64 x.a) (.cons (.int .i64 x.d) (.cons (.sl false 1 (dl iD x.h)) .nil))))).cons .nil)=dl Cs.s (o.cs.take (i + 1)):=(iJ (f:=Cs.s) (o.cs.take i) x).trans (by rw [e7 hr])
    rw [happ]
    exact (cU _ rfl ⟨⟨rfl,rfl⟩,⟨rfl,rfl⟩,⟨rfl,rfl⟩,⟨rfl,rfl⟩,trivial⟩)
   ·intro _ hd
    rw [aI]
    simp only [Off.s,dU,aF,aH]
    repeat' (first|(simp only [cO,hd,cJ,↓wA,↓wC,wB,cL,cK,bP,bQ,bR,reduceIte,reduceCtorEq,aA,bT,dE])|((first|apply cG|apply cH|apply cF)<;>intro h<;>try simp only [h]))
    exact cQ (cX _) (cQ rfl (cQ rfl rfl))
  ·refine ⟨_,h,?_⟩
   simp only [aFT,aF,aH,↓wA,↓wC,wB,cL,cK,bP,bQ,bR,reduceIte,reduceCtorEq,aA,bT,dE]
   refine dR o.cs.length (fun i:Nat=>⟨[(1,.d (.ptr o.s)),(2,.ptr 1 0 []),(3,.ptr 4 0 []),(4,.d (.int .i64 i))],.dead :: .box zO :: ([.dead,.dead] ++ [.box (dU o (.sl true 4 (dl Cs.s (o.cs.take i))) (.sl true 1 (dl D.str o.led)))])⟩) (fun _=>True) ?_ trivial ?_ ?_
   ·exact (cU _ rfl ⟨⟨rfl,rfl⟩,⟨rfl,rfl⟩,⟨rfl,rfl⟩,⟨rfl,rfl⟩,trivial⟩)
   ·intro i hlt _ hd h0
    obtain ⟨x,hr⟩:=dP hlt
    have h1:Fn prog 84 [.sl false 1 (dl iD x.h)] (fun rs=>rs=[.sl false 1 (dl iD x.h)]):=by
     have h:=fY (u5 x.h (ho.1.2 x (aD hr)))
     simpa [D.unown,dM] using h
    simp only [Off.s,dU,aF,aH]
    repeat' (first|(simp only [cO,hd,h0,c6,aB,hr,aC,cJ,cX,cR,↓iH,aWD,aWC,↓wA,↓wC,wB,cL,cK,bP,bQ,bR,reduceIte,reduceCtorEq,aA,bT,dE])|(refine cP (by simp only [dX]; omega) ?_)|((first|apply cG|apply cH|apply cF)<;>intro h<;>try simp only [h]))
    refine c8 (gI 5 rfl) ?_
    simp only [cL,cK,aWE,↓wA,↓wC,wB,cL,cK,bP,bQ,bR,reduceIte,reduceCtorEq,aA,bT,dE]
    refine eI _ (eZ 4 none [1] (es:=4) (xs:=dl Cs.s (o.cs.take i)) rfl rfl) fun v1=>?_
    simp only [dY,Cs.s,Cs.p,cX,cR,cJ,cO,↓wA,↓wC,wB,cL,cK,bP,bQ,bR,reduceIte,reduceCtorEq,aA,bT,dE]
    repeat' (first|(simp only [cO,hd,h0,cJ,cX,cR,cY,↓wA,↓wC,wB,cL,cK,bP,bQ,bR,reduceIte,reduceCtorEq,aA,bT,dE])|(refine dL ?_)|(refine cI h1 rfl rfl ?_)|(with_reducible refine cQ ?_ ?_; focus omega)|(refine cP (by simp only [dX]; omega) ?_)|((first|apply cG|apply cH|apply cF)<;>intro h<;>try simp only [h]))
    refine cQ (by simp) ?_
    have hl:(o.cs.take i).length=i:=by simp; omega
    refine cQ (by rw [hl]; omega) ?_
    refine cP (by simp only [dX]; omega) ?_
    refine ⟨i + 1,?_,by omega,by omega⟩
    have happ:(dl Cs.s (o.cs.take i)).app ((D.st (.cons (.int .i64 x.i) (.cons (.int .i64 x.a) (.cons (.int .i64 x.d) (.cons (.sl false 1 (dl iD x.h)) .nil))))).cons .nil)=dl Cs.s (o.cs.take (i + 1)):=(iJ (f:=Cs.s) (o.cs.take i) x).trans (by rw [e7 hr])
    rw [happ]
    exact (cU _ rfl ⟨⟨rfl,rfl⟩,⟨rfl,rfl⟩,⟨rfl,rfl⟩,⟨rfl,rfl⟩,trivial⟩)
   ·intro _ hd
    rw [aI]
    simp only [Off.s,dU,aF,aH]
    repeat' (first|(simp only [cO,hd,cJ,↓wA,↓wC,wB,cL,cK,bP,bQ,bR,reduceIte,reduceCtorEq,aA,bT,dE])|((first|apply cG|apply cH|apply cF)<;>intro h<;>try simp only [h]))
    exact cQ (cX _) (cQ rfl (cQ rfl rfl))
  ·refine ⟨_,h,?_⟩
   simp only [aFT,aF,aH,↓wA,↓wC,wB,cL,cK,bP,bQ,bR,reduceIte,reduceCtorEq,aA,bT,dE]
   refine dR o.cs.length (fun i:Nat=>⟨[(1,.d (.ptr o.s)),(2,.ptr 1 0 []),(3,.ptr 5 0 []),(4,.d (.int .i64 i))],.dead :: .box zO :: ([.dead,.dead,.dead] ++ [.box (dU o (.sl true 4 (dl Cs.s (o.cs.take i))) (.sl true 1 (dl D.str o.led)))])⟩) (fun _=>True) ?_ trivial ?_ ?_
   ·exact (cU _ rfl ⟨⟨rfl,rfl⟩,⟨rfl,rfl⟩,⟨rfl,rfl⟩,⟨rfl,rfl⟩,trivial⟩)
   ·intro i hlt _ hd h0
    obtain ⟨x,hr⟩:=dP hlt
    have h1:Fn prog 84 [.sl false 1 (dl iD x.h)] (fun rs=>rs=[.sl false 1 (dl iD x.h)]):=by
     have h:=fY (u5 x.h (ho.1.2 x (aD hr)))
     simpa [D.unown,dM] using h
    simp only [Off.s,dU,aF,aH]
    repeat' (first|(simp only [cO,hd,h0,c6,aB,hr,aC,cJ,cX,cR,↓iH,aWD,aWC,↓wA,↓wC,wB,cL,cK,bP,bQ,bR,reduceIte,reduceCtorEq,aA,bT,dE])|(refine cP (by simp only [dX]; omega) ?_)|((first|apply cG|apply cH|apply cF)<;>intro h<;>try simp only [h]))
    refine c8 (gI 6 rfl) ?_
    simp only [cL,cK,aWE,↓wA,↓wC,wB,cL,cK,bP,bQ,bR,reduceIte,reduceCtorEq,aA,bT,dE]
    refine eI _ (eZ 5 none [1] (es:=4) (xs:=dl Cs.s (o.cs.take i)) rfl rfl) fun v1=>?_
    simp only [dY,Cs.s,Cs.p,cX,cR,cJ,cO,↓wA,↓wC,wB,cL,cK,bP,bQ,bR,reduceIte,reduceCtorEq,aA,bT,dE]
    repeat' (first|(simp only [cO,hd,h0,cJ,cX,cR,cY,↓wA,↓wC,wB,cL,cK,bP,bQ,bR,reduceIte,reduceCtorEq,aA,bT,dE])|(refine dL ?_)|(refine cI h1 rfl rfl ?_)|(with_reducible refine cQ ?_ ?_; focus omega)|(refine cP (by simp only [dX]; omega) ?_)|((first|apply cG|apply cH|apply cF)<;>intro h<;>try simp only [h]))
    refine cQ (by simp) ?_
    have hl:(o.cs.take i).length=i:=by simp; omega
    refine cQ (by rw [hl]; omega) ?_
    refine cP (by simp only [dX]; omega) ?_
    refine ⟨i + 1,?_,by omega,by omega⟩
    have happ:(dl Cs.s (o.cs.take i)).app ((D.st (.cons (.int .i64 x.i) (.cons (.int .i64 x.a) (.cons (.int .i64 x.d) (.cons (.sl false 1 (dl iD x.h)) .nil))))).cons .nil)=dl Cs.s (o.cs.take (i + 1)):=(iJ (f:=Cs.s) (o.cs.take i) x).trans (by rw [e7 hr])
    rw [happ]
    exact (cU _ rfl ⟨⟨rfl,rfl⟩,⟨rfl,rfl⟩,⟨rfl,rfl⟩,⟨rfl,rfl⟩,trivial⟩)
   ·intro _ hd
    rw [aI]
    simp only [Off.s,dU,aF,aH]
    repeat' (first|(simp only [cO,hd,cJ,↓wA,↓wC,wB,cL,cK,bP,bQ,bR,reduceIte,reduceCtorEq,aA,bT,dE])|((first|apply cG|apply cH|apply cF)<;>intro h<;>try simp only [h]))
    exact cQ (cX _) (cQ rfl (cQ rfl rfl))
theorem aIR (o:Off) (k id a v:Int) (ho:o.ok0):Fn prog 128 [o.s,jZ k id a v] (fun rs=>rs=[.bool (m9 o k id a v)]):=by
 have hF:=kU o id ho
 have hid:=iK id 1 999
 have ha:=iK a 1 3
 have hv:=iK v 1 9
 unfold m9
 refine cW aR1 [] ?_
 dsimp only [aR1,cT,c7]
 simp only [jZ]
 repeat' (first|(simp only [aWu,aWw,aWz,↓dF,cJ,↓wA,↓wC,wB,cL,cK,bP,bQ,bR,reduceIte,reduceCtorEq,aA,bT,dE])|(refine cI hF (by simp [dB,dI,aWv]) rfl ?_)|(refine cI (hid) rfl rfl ?_)|(refine cM (hid) rfl rfl ?_)|(refine cI (ha) rfl rfl ?_)|(refine cM (ha) rfl rfl ?_)|(refine cI (hv) rfl rfl ?_)|(refine cM (hv) rfl rfl ?_)|((first|apply cG|apply cH|apply cF)<;>intro h<;>try simp only [h]))
 all_goals simp_all
theorem aGT (o:Off) (k id a v:Int) (ho:o.ok0) (hb:dX .i64 (o.day + v)):Fn prog 168 [o.s,jZ k id a v] (fun rs=>rs=[Off.w { o with cs:=iO ⟨id,a,o.day + v,[]⟩ o.cs }]):=by
 have hO:=j9 o ho
 have hno:o.w.noOwn=false:=by simp [Off.w,dU,D.noOwn]
 have hwV:o.w.isV=true:=rfl
 have hwS:o.w.size=5:=rfl
 have hlen:=ho.1.1
 refine cW aRR [[1,1,1,1,1,0],[1,1,0],[1,1,0],[1,1,0]] ?_
 dsimp only [aRR,cT,c7]
 simp only [jZ]
 repeat' (first|(simp only [aWu,aWw,aWz,hno,hwV,hwS,↓dF,cJ,↓wA,↓wC,wB,cL,cK,bP,bQ,bR,reduceIte,reduceCtorEq,aA,bT,dE])|(refine cI hO (by simp [dB,dI,aWv]) rfl ?_)|((first|apply cG|apply cH|apply cF)<;>intro h<;>try simp only [h]))
 refine c8 (gI 0 rfl) ?_
 simp only [cL,cK,aWv,↓wA,↓wC,wB,cL,cK,bP,bQ,bR,reduceIte,reduceCtorEq,aA,bT,dE]
 refine c8 (gI 1 rfl) ?_
 simp only [cL,cK,D.unown,↓wA,↓wC,wB,cL,cK,bP,bQ,bR,reduceIte,reduceCtorEq,aA,bT,dE]
 refine c8 (freeze 4 none [1] (x:=.sl true 4 (dl Cs.s o.cs)) rfl rfl rfl) ?_
 simp only [dY,Off.w,dU,D.unown,fS,↓wA,↓wC,wB,cL,cK,bP,bQ,bR,reduceIte,reduceCtorEq,aA,bT,dE]
 refine dZ (fun j:Nat=>⟨[(2,.d (.ptr o.s)),(3,.d (.ptr (jZ k id a v))),(4,.ptr 2 0 []),(5,.ptr 4 0 []),(6,.d (.int .i64 j))],[.dead,.dead,.box zO,.dead,.box (dU o (.sl false 4 (dl Cs.s o.cs)) (.sl true 1 (dl D.str o.led)))]⟩) (fun j=>j<=o.cs.length/\∀ m x,m < j->o.cs[m]?=some x->x.i < id) (fun j=>o.cs.length - j) 0 (cU _ rfl ⟨⟨rfl,rfl⟩,⟨rfl,rfl⟩,⟨rfl,rfl⟩,⟨rfl,rfl⟩,⟨rfl,rfl⟩,trivial⟩) ⟨by omega,fun m x hm=>by omega⟩ ?_
 rintro j ⟨hj1,hj2⟩
 simp only [dU,jZ]
 have hcm:∀ x:Cs,Cs.s x=x.p (.sl false 1 (dl iD x.h)):=fun _=>rfl
 have hj0:(0:Int)<=(j:Int):=by omega
 by_cases hlt:j < o.cs.length
 ·obtain ⟨x,hr⟩:=dP hlt
  have hd:decide ((j:Int) < (o.cs.length:Int))=true:=decide_eq_true (by omega)
  cases hx:decide (x.i < id) with
  | true =>
   repeat' (first|(simp only [cJ,cO,c6,hd,hx,hr,hj0,Cs.s,Cs.p,cX,cR,aB,aC,nV,nP,↓wA,↓wC,wB,cL,cK,bP,bQ,bR,reduceIte,reduceCtorEq,aA,bT,dE])|(with_reducible refine cP ?_ ?_; focus (simp only [dX]; omega))|((first|apply cG|apply cH|apply cF)<;>intro h<;>try simp only [h]))
   refine ⟨j + 1,(cU _ rfl ⟨⟨rfl,rfl⟩,⟨rfl,rfl⟩,⟨rfl,rfl⟩,⟨rfl,rfl⟩,⟨rfl,rfl⟩,trivial⟩),⟨by omega,fun m y hm hy=>?_⟩,by omega⟩
   by_cases e:m=j
   ·subst e
    rw [hr] at hy
    injection hy with hy
    rw [<- hy]; exact of_decide_eq_true hx
   ·exact hj2 m y (by omega) hy
  | false =>
   have hpl:q9 id o.cs=j:=rT o.cs j hj1 hj2 (fun y hy=>by rw [hr] at hy; injection hy with hy; rw [<- hy]; exact of_decide_eq_false hx)
   repeat' (first|(simp only [cJ,cO,c6,hd,hx,hr,hj0,Off.s,dU,Cs.s,Cs.p,cX,cR,aB,aC,nV,nP,↓wA,↓wC,wB,cL,cK,bP,bQ,bR,reduceIte,reduceCtorEq,aA,bT,dE])|(with_reducible refine cP hb ?_)|(with_reducible refine cP ?_ ?_; focus (simp only [dX]; omega))|((first|apply cG|apply cH|apply cF)<;>intro h<;>try simp only [h]))
   refine c8 (gI 7 rfl) ?_
   simp only [cL,cK,D.unown,↓wA,↓wC,wB,cL,cK,bP,bQ,bR,reduceIte,reduceCtorEq,aA,bT,dE]
   repeat' (first|(simp only [cJ,cO,cX,cR,↓wA,↓wC,wB,cL,cK,bP,bQ,bR,reduceIte,reduceCtorEq,aA,bT,dE])|(refine dL ?_)|(with_reducible refine aV ?_ ?_)|(with_reducible refine cP ?_ ?_; focus (simp only [dX]; omega))|((first|apply cG|apply cH|apply cF)<;>intro h<;>try simp only [h]))
   have hs1:(dl Cs.s o.cs).sub 0 j=dl Cs.s (o.cs.take j):=by rw [pR]; rfl
   have hs2:(dl Cs.s o.cs).sub j o.cs.length=dl Cs.s (o.cs.drop j):=by rw [pR,aI]
   have happ:∀ xs:List Cs,(dl Cs.s xs).app (D.cons (D.st (.cons (.int .i64 id) (.cons (.int .i64 a) (.cons (.int .i64 (o.day + v)) (.cons (.sl false 1 .nil) .nil))))) .nil)=dl Cs.s (xs ++ [⟨id,a,o.day + v,[]⟩]):=fun xs=>iJ (f:=Cs.s) xs ⟨id,a,o.day + v,[]⟩
   have hen:iO ⟨id,a,o.day + v,[]⟩ o.cs=(o.cs.take j ++ [⟨id,a,o.day + v,[]⟩]) ++ o.cs.drop j:=by unfold iO; rw [hpl]; simp
   rw [hen]
   clear hen
   simp only [aB,hs1,hs2,happ,w6,cO,aO,aK,aT,aP,aG hj1]
   repeat' (first|(with_reducible refine aV ?_ ?_)|(with_reducible refine cQ ?_ ?_; focus omega)|(with_reducible refine cQ ?_ ?_; focus (simp; done))|(with_reducible refine cQ ?_ ?_; focus rfl)|rfl)
   all_goals exact cQ rfl (cQ rfl trivial)
 ·have hd:decide ((j:Int) < (o.cs.length:Int))=false:=decide_eq_false (by omega)
  have hpl:q9 id o.cs=j:=rT o.cs j hj1 hj2 (fun y hy=>by have:=cV hy; omega)
  repeat' (first|(simp only [cJ,cO,c6,hd,hd,hd,hj0,Off.s,dU,Cs.s,Cs.p,cX,cR,aB,aC,nV,nP,↓wA,↓wC,wB,cL,cK,bP,bQ,bR,reduceIte,reduceCtorEq,aA,bT,dE])|(with_reducible refine cP hb ?_)|(with_reducible refine cP ?_ ?_; focus (simp only [dX]; omega))|((first|apply cG|apply cH|apply cF)<;>intro h<;>try simp only [h]))
  refine c8 (gI 7 rfl) ?_
  simp only [cL,cK,D.unown,↓wA,↓wC,wB,cL,cK,bP,bQ,bR,reduceIte,reduceCtorEq,aA,bT,dE]
  repeat' (first|(simp only [cJ,cO,cX,cR,↓wA,↓wC,wB,cL,cK,bP,bQ,bR,reduceIte,reduceCtorEq,aA,bT,dE])|(refine dL ?_)|(with_reducible refine aV ?_ ?_)|(with_reducible refine cP ?_ ?_; focus (simp only [dX]; omega))|((first|apply cG|apply cH|apply cF)<;>intro h<;>try simp only [h]))
  have hs1:(dl Cs.s o.cs).sub 0 j=dl Cs.s (o.cs.take j):=by rw [pR]; rfl
  have hs2:(dl Cs.s o.cs).sub j o.cs.length=dl Cs.s (o.cs.drop j):=by rw [pR,aI]
  have happ:∀ xs:List Cs,(dl Cs.s xs).app (D.cons (D.st (.cons (.int .i64 id) (.cons (.int .i64 a) (.cons (.int .i64 (o.day + v)) (.cons (.sl false 1 .nil) .nil))))) .nil)=dl Cs.s (xs ++ [⟨id,a,o.day + v,[]⟩]):=fun xs=>iJ (f:=Cs.s) xs ⟨id,a,o.day + v,[]⟩
  have hen:iO ⟨id,a,o.day + v,[]⟩ o.cs=(o.cs.take j ++ [⟨id,a,o.day + v,[]⟩]) ++ o.cs.drop j:=by unfold iO; rw [hpl]; simp
  rw [hen]
  clear hen
  simp only [aB,hs1,hs2,happ,w6,cO,aO,aK,aT,aP,aG hj1]
  repeat' (first|(with_reducible refine aV ?_ ?_)|(with_reducible refine cQ ?_ ?_; focus omega)|(with_reducible refine cQ ?_ ?_; focus (simp; done))|(with_reducible refine cQ ?_ ?_; focus rfl)|rfl)
  all_goals exact cQ rfl (cQ rfl trivial)
def aAL (v:Int) (h:List Int):List Int:=h.filter fun n=>!decide (n=v)
theorem aH0 {v r:Int} {h:List Int} {k:Nat} (hr:h[k]?=some r):aAL v (h.take (k + 1))=aAL v (h.take k) ++ (if r=v then [] else [r]):=by
 rw [e7 hr]
 unfold aAL
 rw [List.filter_append]
 by_cases e:r=v
 ·simp [e]
 ·simp [e]
theorem aJW {v r:Int} {h:List Int} {k:Nat} (hr:h[k]?=some r):(h.take (k + 1)).contains v=((h.take k).contains v || decide (v=r)):=by
 rw [e7 hr]
 simp [List.contains_eq_any_beq,List.any_append]
theorem aLO (v:Int) (h:List Int):(aAL v h).length<=h.length:=aZ _ _
theorem aDt (o:Off) (v:Int) (ho:o.ok0):Fn prog 170 [o.s,.int .i64 v] (fun rs=>rs=[Off.w { o with cs:=o.cs.map (tU v) },.bool (vU v o.cs)]):=by
 have hO:=j9 o ho
 have hno:o.w.noOwn=false:=by simp [Off.w,dU,D.noOwn]
 have hwV:o.w.isV=true:=rfl
 have hwS:o.w.size=5:=rfl
 have hlen:=ho.1.1
 refine cW aQD [[1,1,0,1,0,0,1,0,0,1,1],[1,1,0,0],[1,1,1,0]] ?_
 dsimp only [aQD,cT,c7]
 repeat' (first|(simp only [aWu,aWw,aWz,hno,hwV,hwS,↓dF,cJ,↓wA,↓wC,wB,cL,cK,bP,bQ,bR,reduceIte,reduceCtorEq,aA,bT,dE])|(refine cI hO (by simp [dB,dI,aWv]) rfl ?_)|((first|apply cG|apply cH|apply cF)<;>intro h<;>try simp only [h]))
 simp only [Off.w,dU]
 refine eI _ (eZ 3 none [1] (es:=4) (xs:=dl Cs.s o.cs) rfl rfl) fun v1=>?_
 simp only [dY,cJ,cO,↓wA,↓wC,wB,cL,cK,bP,bQ,bR,reduceIte,reduceCtorEq,aA,bT,dE]
 refine dR o.cs.length (fun i:Nat=>⟨[(1,.d (.int .i64 v)),(4,.ptr 1 0 []),(6,.ptr 3 0 []),(7,.d (.bool (vU v (o.cs.take i)))),(8,.d (.int .i64 i))],[.box o.s,.box zO,.dead,.box (dU o (.lnk 5 v1) (.sl true 1 (dl D.str o.led))),.val (.sl true 4 (dl Cs.s (tF v o.cs i))),.tag 4 v1]⟩) (fun _=>True) ?_ trivial ?_ ?_
 ·exact (cU _ rfl ⟨⟨rfl,rfl⟩,⟨rfl,rfl⟩,⟨rfl,rfl⟩,⟨rfl,rfl⟩,⟨rfl,rfl⟩,trivial⟩)
 ·intro i hlt _ hd h0
  obtain ⟨x,hr⟩:=dP hlt
  have hg:=aHr (v:=v) hr
  have hxo:=ho.1.2 x (aD hr)
  have hxl:x.h.length<=1048576:=hxo
  have hxs:Cs.s x=x.p (.sl false 1 (dl iD x.h)):=rfl
  have hgs:∀ (y:D),((dl Cs.s (tF v o.cs i)).setN i y).nth i=some y:=fun y=>by rw [oD,if_pos rfl,c6,hg]; rfl
  have hgn:(dl Cs.s (tF v o.cs i)).nth i=some (x.p (.sl false 1 (dl iD x.h))):=by rw [c6,hg]; rfl
  have hx:=aD4 (v:=v) hr
  simp only [dU]
  repeat' (first|(simp only [cO,m4,hd,h0,cJ,↓wA,↓wC,wB,cL,cK,bP,bQ,bR,reduceIte,reduceCtorEq,aA,bT,dE])|((first|apply cG|apply cH|apply cF)<;>intro h<;>try simp only [h]))
  refine dR x.h.length (fun k:Nat=>⟨[(1,.d (.int .i64 v)),(4,.ptr 1 0 []),(6,.ptr 3 0 []),(7,.d (.bool (vU v (o.cs.take i) || (x.h.take k).contains v))),(8,.d (.int .i64 i)),(9,.own 6),(10,.d (.int .i64 k))],[.box o.s,.box zO,.dead,.box (dU o (.lnk 5 v1) (.sl true 1 (dl D.str o.led))),.val (.sl true 4 (dl Cs.s (tF v o.cs i))),.tag 4 v1,.val (.sl true 1 (dl iD (aAL v (x.h.take k))))]⟩) (fun _=>True) ?_ trivial ?_ ?_
  ·rw [bH,show ([]:List Int).contains v=false from rfl,a6]
   exact (cU _ rfl ⟨⟨rfl,rfl⟩,⟨rfl,rfl⟩,⟨rfl,rfl⟩,⟨rfl,rfl⟩,⟨rfl,rfl⟩,⟨rfl,rfl⟩,⟨rfl,rfl⟩,trivial⟩)
  ·intro k hk _ hkd hk0
   obtain ⟨r,hkr⟩:=dP hk
   have hlx:=aH0 (v:=v) hkr
   have hhx:=aJW (v:=v) hkr
   simp only [dU]
   cases hrv:decide (r=v) with
   | true =>
    have hrv':=of_decide_eq_true hrv
    rw [if_pos hrv',bD] at hlx
    rw [decide_eq_true hrv'.symm,bA] at hhx
    repeat' (first|(simp only [cO,m4,hd,h0,hkd,hk0,hrv,hgn,c6,hkr,aB,aC,e9,cY,cJ,fM,eJ,eQ,↓wA,↓wC,wB,cL,cK,bP,bQ,bR,reduceIte,reduceCtorEq,aA,bT,dE])|(with_reducible refine cP ?_ ?_; focus (simp only [dX]; omega))|((first|apply cG|apply cH|apply cF)<;>intro h<;>try simp only [h]))
    refine ⟨k + 1,?_,by omega,by omega⟩
    rw [hlx,hhx,bA]
    exact (cU _ rfl ⟨⟨rfl,rfl⟩,⟨rfl,rfl⟩,⟨rfl,rfl⟩,⟨rfl,rfl⟩,⟨rfl,rfl⟩,⟨rfl,rfl⟩,⟨rfl,rfl⟩,trivial⟩)
   | false =>
    have hrv':=of_decide_eq_false hrv
    rw [if_neg hrv'] at hlx
    rw [decide_eq_false (fun e=>hrv' e.symm),a6] at hhx
    repeat' (first|(simp only [cO,m4,hd,h0,hkd,hk0,hrv,hgn,c6,hkr,aB,aC,e9,cY,cJ,fM,eJ,eQ,↓wA,↓wC,wB,cL,cK,bP,bQ,bR,reduceIte,reduceCtorEq,aA,bT,dE])|(with_reducible refine cP ?_ ?_; focus (simp only [dX]; omega))|((first|apply cG|apply cH|apply cF)<;>intro h<;>try simp only [h]))
    have hll:=aLO v (x.h.take k)
    have hlt2:(x.h.take k).length<=k:=by simp; omega
    refine cQ (by simp) ?_
    refine cQ (by omega) ?_
    refine cP (by simp only [dX]; omega) ?_
    have happ:(dl iD (aAL v (x.h.take k))).app (D.cons (.int .i64 r) .nil)=dl iD (aAL v (x.h.take (k + 1))):=(iJ (f:=iD) _ r).trans (by rw [hlx])
    rw [happ]
    refine ⟨k + 1,?_,by omega,by omega⟩
    rw [hhx]
    exact (cU _ rfl ⟨⟨rfl,rfl⟩,⟨rfl,rfl⟩,⟨rfl,rfl⟩,⟨rfl,rfl⟩,⟨rfl,rfl⟩,⟨rfl,rfl⟩,⟨rfl,rfl⟩,trivial⟩)
  ·intro _ hkd
   rw [aI]
   simp only [dU]
   repeat' (first|(simp only [cO,m4,hd,h0,hkd,hgn,c6,aB,aC,cY,cJ,fM,eJ,eQ,↓wA,↓wC,wB,cL,cK,bP,bQ,bR,reduceIte,reduceCtorEq,aA,bT,dE])|((first|apply cG|apply cH|apply cF)<;>intro h<;>try simp only [h]))
   refine c8 (aIL 6 rfl) ?_
   simp only [wV,tT,D.unown,dM,↓wA,↓wC,wB,cL,cK,bP,bQ,bR,reduceIte,reduceCtorEq,aA,bT,dE]
   repeat' (first|(simp only [cO,m4,hd,h0,hgn,hgs,eL,c6,aB,aC,cY,cJ,fM,eJ,eQ,↓wA,↓wC,wB,cL,cK,bP,bQ,bR,reduceIte,reduceCtorEq,aA,bT,dE])|(with_reducible refine cP ?_ ?_; focus (simp only [dX]; omega))|((first|apply cG|apply cH|apply cF)<;>intro h<;>try simp only [h]))
   have e:x.p (.sl false 1 (dl iD (aAL v x.h)))=Cs.s (tU v x):=rfl
   rw [e,gV,aCy hr]
   refine ⟨i + 1,?_,by omega,by omega⟩
   rw [hx]
   exact (cU _ rfl ⟨⟨rfl,rfl⟩,⟨rfl,rfl⟩,⟨rfl,rfl⟩,⟨rfl,rfl⟩,⟨rfl,rfl⟩,trivial⟩)
 ·intro _ hd
  have er:tF v o.cs o.cs.length=o.cs.map (tU v):=by simp [tF]
  rw [er,aI]
  simp only [dU]
  repeat' (first|(simp only [cO,aR,hd,cJ,↓wA,↓wC,wB,cL,cK,bP,bQ,bR,reduceIte,reduceCtorEq,aA,bT,dE])|((first|apply cG|apply cH|apply cF)<;>intro h<;>try simp only [h]))
  refine c8 (gA 3 5 4 none [1] rfl rfl rfl rfl (by decide) rfl) ?_
  simp only [dY,↓wA,↓wC,wB,cL,cK,bP,bQ,bR,reduceIte,reduceCtorEq,aA,bT,dE]
  repeat' (first|(simp only [cR,cJ,↓wA,↓wC,wB,bP,bQ,reduceIte,aA,dE])|((first|apply cG|apply cH|apply cF)<;>intro h<;>try simp only [h]))
  exact cQ rfl (cQ rfl trivial)
theorem aMw (v:List Int) (p:Int) (hlen:v.length<=1048576) (hp:p ∉ v):Fn prog 169 [.sl false 1 (dl iD v),.int .i64 p] (fun rs=>rs=[.sl true 1 (dl iD (kS p v))]):=by
 refine cW aRS [] ?_
 dsimp only [aRS,cT,c7]
 simp only [↓wA,↓wC,wB,cL,cK,bP,bQ,bR,reduceIte,reduceCtorEq,aA,bT]
 refine dZ (fun k:Nat=>⟨[(0,.d (.sl false 1 (dl iD v))),(1,.d (.int .i64 p)),(5,.d (.int .i64 k))],[]⟩) (fun k=>k<=v.length/\∀ m x,m < k->v[m]?=some x->x < p) (fun k=>v.length - k) 0 (cU _ rfl ⟨⟨rfl,rfl⟩,⟨rfl,rfl⟩,⟨rfl,rfl⟩,trivial⟩) ⟨by omega,fun m x hm _=>by omega⟩ ?_
 rintro k ⟨hk,hinv⟩
 have h0:(0:Int)<=(k:Int):=by omega
 have hs1:(dl iD v).sub 0 k=dl iD (v.take k):=by rw [pR]; rfl
 have hs2:(dl iD v).sub k v.length=dl iD (v.drop k):=by rw [pR,aI]
 have hs3:(dl iD v).sub v.length v.length=dl iD (v.drop v.length):=by rw [pR,aI]
 have hs4:(dl iD v).sub 0 v.length=dl iD (v.take v.length):=by rw [pR]; rfl
 by_cases hlt:k < v.length
 ·obtain ⟨x,hx⟩:=dP hlt
  have hd:decide ((k:Int) < (v.length:Int))=true:=decide_eq_true (by omega)
  cases hc:decide (x < p) with
  | true =>
   repeat' (first|(simp only [cO,hd,h0,hc,c6,aB,hx,aC,e9,cJ,↓wA,↓wC,wB,bP,bQ,reduceIte,reduceCtorEq])|(with_reducible refine cP ?_ ?_; focus (simp only [dX]; omega))|((first|apply cG|apply cH|apply cF)<;>intro h<;>try simp only [h]))
   refine ⟨k + 1,(cU _ rfl ⟨⟨rfl,rfl⟩,⟨rfl,rfl⟩,⟨rfl,rfl⟩,trivial⟩),⟨by omega,fun m z hm hz=>?_⟩,by omega⟩
   by_cases e:m=k
   ·subst e
    rw [hx] at hz
    injection hz with hz
    rw [<- hz]
    exact of_decide_eq_true hc
   ·exact hinv m z (by omega) hz
  | false =>
   have hpos:=aEE v k hk hinv (fun z hz=>by
    rw [hx] at hz
    injection hz with hz
    rw [<- hz]
    exact of_decide_eq_false hc)
   have hne:decide (x=p)=false:=decide_eq_false (fun e=>hp (e ▸ aD hx))
   rw [kS,hpos]
   repeat' (first|(simp only [cO,hd,h0,hc,hne,c6,aB,hx,aC,e9,cJ,↓wA,↓wC,wB,cL,cK,bP,bQ,bR,reduceIte,reduceCtorEq,aA,bT])|(refine dL ?_)|(with_reducible refine aV ?_ ?_)|(with_reducible refine cQ ?_ ?_; focus omega)|(with_reducible refine cQ ?_ ?_; focus (simp; done))|(with_reducible refine cQ ?_ ?_; focus (simp; omega))|(with_reducible refine cP ?_ ?_; focus (simp only [dX]; omega))|((first|apply cG|apply cH|apply cF)<;>intro h<;>try simp only [h]))
   all_goals
    simp only [hs1,hs2,gC,w6,cO,aO,aK,aT,aP,aG hk]
    repeat' (first|(with_reducible refine cQ ?_ ?_; focus omega)|(with_reducible refine cQ ?_ ?_; focus (simp; done)))
    all_goals simp [aW]
 ·have hd:decide ((k:Int) < (v.length:Int))=false:=decide_eq_false (by omega)
  have e:k=v.length:=by omega
  have hpos:=aEE v k hk hinv (fun z hz=>absurd (cV hz) (by omega))
  rw [kS,hpos]
  subst e
  repeat' (first|(simp only [cO,hd,h0,aB,e9,cJ,↓wA,↓wC,wB,cL,cK,bP,bQ,bR,reduceIte,reduceCtorEq,aA,bT])|(refine dL ?_)|(with_reducible refine aV ?_ ?_)|(with_reducible refine cQ ?_ ?_; focus omega)|(with_reducible refine cQ ?_ ?_; focus (simp; done))|(with_reducible refine cQ ?_ ?_; focus (simp; omega))|(with_reducible refine cP ?_ ?_; focus (simp only [dX]; omega))|((first|apply cG|apply cH|apply cF)<;>intro h<;>try simp only [h]))
  all_goals
   simp only [hs3,hs4,gC,w6,cO,aO,aK,aT,aP,aG hk]
   repeat' (first|(with_reducible refine cQ ?_ ?_; focus omega)|(with_reducible refine cQ ?_ ?_; focus (simp; done)))
   all_goals simp [aW]
end Go.Pe.Tryz
