/- A text cut, split, verified, walked; RunScript, walked; The law of RunScript -/
import Derived.Test.YtjmobminbckhjaaGreatDoorW7
import Derived.Test.YtjmobminbckhjaaGreatDoorW1
import Derived.Test.YtjmobminbckhjaaGreatDoorShelf
import Derived.Test.YtjmobminbckhjaaGreatDoorW6
import Derived.Test.YtjmobminbckhjaaGreatDoorPeD
import Derived.Test.YtjmobminbckhjaaGreatDoorMc1
import Derived.Test.YtjmobminbckhjaaGreatDoorMc2
import Derived.Test.YtjmobminbckhjaaGreatDoorMc3
import Derived.Test.YtjmobminbckhjaaGreatDoorMc4
import Derived.Test.YtjmobminbckhjaaGreatDoorMc5
import Derived.Test.YtjmobminbckhjaaGreatDoorMc6
import Derived.Test.YtjmobminbckhjaaGreatDoorMc7
import Derived.Test.YtjmobminbckhjaaGreatDoorMc8
set_option maxRecDepth 100000
set_option maxHeartbeats 4000000
set_option linter.all false
open List renaming take_length->aB, mem_of_getElem?->aC
open Nat renaming reduceBEq->aA, reduceEqDiff->aD, reduceAdd->aE, reduceSub->aF, reduceLT->aG
namespace Go.Pe.Tryz
open Go.Proofs.Tryz Go.Sort
theorem aHN (L:List (List UInt8)):(dl D.str L).allOwn=true:=mT (fun _=>rfl) L
def vU (x:Con) (L:List (List UInt8)):Con×List (List UInt8):=L.foldl (fun p l=>((exC p.1 l).1,p.2 ++ [(exC p.1 l).2])) (x,[])
def qF (x:Con) (s:List UInt8):Bool:=oG x && decide (s.length<=4000) && decide ((parts 10 s).length<=30)
def qE (x:Con) (s:List UInt8):List (List UInt8):=if qF x s=true then (vU x (parts 10 s)).2 else []
theorem aEU {x:Con} {L:List (List UInt8)} {i:Nat} {l:List UInt8} (hr:L[i]?=some l):vU x (L.take (i + 1))=((exC (vU x (L.take i)).1 l).1,(vU x (L.take i)).2 ++ [(exC (vU x (L.take i)).1 l).2]):=by
 unfold vU
 rw [e7 hr,List.foldl_append]; rfl
theorem vB:∀ (i:Nat) {x:Con} {L:List (List UInt8)},x.ok0->i<=L.length->(vU x (L.take i)).1.ok0/\(vU x (L.take i)).2.length=i
 | 0,x,L,h,_=>⟨h,rfl⟩
 | i + 1,x,L,h,hi=>by
  obtain ⟨l,hr⟩:=dQ (show i < L.length by omega)
  have ih:=vB i (L:=L) h (by omega)
  rw [aEU hr]
  exact ⟨aJA ih.1,by simp [ih.2]⟩
theorem aAy (x:Con) (s:List UInt8) (h:x.ok0) (hl:s.length<=1048576):Fn prog 18 [x.s,.str s] (fun rs=>rs=[.sl true 1 (dl D.str (qE x s)),.bool (qF x s)]):=by
 have hV:=qT x h
 have hP:Fn prog 38 [.str s,.str [10]] (fun rs=>rs=[.sl false 1 (dl D.str (parts 10 s))]):=by simpa [D.unown,fA] using fX (aFZ s 10 (by omega))
 cases hv:oG x with
 | false =>
  rw [hv] at hV
  have hB:qF x s=false:=by simp [qF,hv]
  rw [show qE x s=[] by simp [qE,hB],hB]
  refine cW aGc [] ?_
  dsimp only [aGc,cT,c7]
  repeat' (first|(simp only [aWx,aWy,aWA,↓eA,cJ,↓wA,↓wC,wB,cL,cK,aD,aE,aF,reduceIte,reduceCtorEq,aA,aG])|(refine cI hV rfl rfl ?_)|((first|apply cG|apply cH|apply cF)<;>intro h<;>try simp only [h]))
  exact lM 1 rfl
 | true =>
  rw [hv] at hV
  by_cases h4:(4000:Int) < (s.length:Int)
  ·have hd4:decide ((4000:Int) < (s.length:Int))=true:=decide_eq_true h4
   have hB:qF x s=false:=by
    rw [qF,show decide (s.length<=4000)=false from decide_eq_false (by omega)]; simp
   rw [show qE x s=[] by simp [qE,hB],hB]
   refine cW aGc [] ?_
   dsimp only [aGc,cT,c7]
   repeat' (first|(simp only [hd4,aWx,aWy,aWA,↓eA,cJ,↓wA,↓wC,wB,cL,cK,aD,aE,aF,reduceIte,reduceCtorEq,aA,aG])|(refine cI hV rfl rfl ?_)|((first|apply cG|apply cH|apply cF)<;>intro h<;>try simp only [h]))
   exact lM 1 rfl
  ·have hd4:decide ((4000:Int) < (s.length:Int))=false:=decide_eq_false h4
   by_cases h3:(30:Int) < ((parts 10 s).length:Int)
   ·have hd3:decide ((30:Int) < ((parts 10 s).length:Int))=true:=decide_eq_true h3
    have hB:qF x s=false:=by
     rw [qF,show decide ((parts 10 s).length<=30)=false from decide_eq_false (by omega)]; simp
    rw [show qE x s=[] by simp [qE,hB],hB]
    refine cW aGc [] ?_
    dsimp only [aGc,cT,c7]
    repeat' (first|(simp only [hd4,hd3,cO,cR,aWx,aWy,aWA,↓eA,cJ,↓wA,↓wC,wB,cL,cK,aD,aE,aF,reduceIte,reduceCtorEq,aA,aG])|(refine cI hV rfl rfl ?_)|(refine cI hP rfl rfl ?_)|((first|apply cG|apply cH|apply cF)<;>intro h<;>try simp only [h]))
    exact lM 1 rfl
   ·have hd3:decide ((30:Int) < ((parts 10 s).length:Int))=false:=decide_eq_false h3
    have hB:qF x s=true:=by simp [qF,hv]; omega
    rw [show qE x s=(vU x (parts 10 s)).2 by simp [qE,hB],hB]
    have hle:∀ l∈parts 10 s,l.length<=s.length:=fun l hm=>yG 10 s l hm
    generalize parts 10 s=L at hP hd3 h3 hle
    refine cW aGc [] ?_
    dsimp only [aGc,cT,c7]
    repeat' (first|(simp only [hd4,hd3,cO,cR,aWx,aWy,aWA,↓eA,cJ,↓wA,↓wC,wB,cL,cK,aD,aE,aF,reduceIte,reduceCtorEq,aA,aG])|(refine cI hV rfl rfl ?_)|(refine cI hP rfl rfl ?_)|((first|apply cG|apply cH|apply cF)<;>intro h<;>try simp only [h]))
    refine qO [(7,1)] L.length (fun i:Nat=>⟨[(2,.ptr 0 0 []),(7,.own 1),(25,.d (.sl false 1 (dl D.str L))),(26,.d (.int .i64 L.length)),(27,.d (.int .i64 i))],[.box (vU x (L.take i)).1.s,.val (.sl true 1 (dl D.str (vU x (L.take i)).2))]⟩) (fun _=>True) ⟨rfl,trivial⟩ ?_ trivial ?_ ?_
    ·exact (cU _ rfl ⟨⟨rfl,rfl⟩,⟨rfl,rfl⟩,⟨rfl,rfl⟩,⟨rfl,rfl⟩,⟨rfl,rfl⟩,trivial⟩)
    ·intro i hlt _ hd h0
     obtain ⟨l,hr⟩:=dQ hlt
     have hk:=vB i (L:=L) h (by omega)
     have hll:=hle l (aC hr)
     have hX:=zB _ l hk.1 (by omega)
     have hnx:=aEU (x:=x) hr
     generalize vU x (L.take i)=p at hX hnx hk
     repeat' (first|(simp only [hd,h0,hr,Int.toNat_natCast,Option.map_some,cO,c6,cR,aWx,aWy,aWA,↓eA,cJ,↓wA,↓wC,wB,cL,cK,aD,aE,aF,reduceIte,reduceCtorEq,aA,aG])|(refine cQ rfl ?_)|(refine dL ?_)|(with_reducible refine And.intro ?_ ?_)|(refine cI hX rfl rfl ?_)|(refine cQ (fun h=>by cases h) ?_)|(with_reducible refine cQ ?_ ?_; focus ((try simp only [cO]); omega))|(refine cP (by simp only [dW]; omega) ?_)|((first|apply cG|apply cH|apply cF)<;>intro h<;>try simp only [h]))
     all_goals
      refine ⟨i + 1,?_,by omega,by omega⟩
      rw [hnx]
      (try simp only [aCw])
      exact (cU _ rfl ⟨⟨rfl,rfl⟩,⟨rfl,rfl⟩,⟨rfl,rfl⟩,⟨rfl,rfl⟩,⟨rfl,rfl⟩,trivial⟩)
    ·intro _ hd
     have hk:=vB L.length (L:=L) h (by omega)
     rw [aB] at hk ⊢
     repeat' (first|(simp only [hd,cO,cJ,↓wA,↓wC,wB,cL,cK,aD,aE,aF,reduceIte,reduceCtorEq,aA,aG])|((first|apply cG|apply cH|apply cF)<;>intro h<;>try simp only [h]))
theorem zU (x:Con) (s:List UInt8) (h:x.ok0) (hl:s.length<=1048576):Fn prog 17 [x.s,.str s] (fun rs=>rs=[.sl true 1 (dl D.str (qE x s)),.bool (qF x s)]):=by
 have hV:=aCL x h
 have hP:Fn prog 44 [.str s,.int .u8 10] (fun rs=>rs=[.sl false 1 (dl D.str (parts 10 s))]):=by simpa [D.unown,fA] using fX (qC s 10 (by omega))
 cases hv:oG x with
 | false =>
  rw [hv] at hV
  have hB:qF x s=false:=by simp [qF,hv]
  rw [show qE x s=[] by simp [qE,hB],hB]
  refine cW aGh [] ?_
  dsimp only [aGh,cT,c7]
  repeat' (first|(simp only [aWx,aWy,aWA,↓eA,cJ,cO,cR,↓wA,↓wC,wB,cL,cK,aD,aE,aF,reduceIte,reduceCtorEq,aA,aG])|(refine cI hV rfl rfl ?_)|(refine cI hP rfl rfl ?_)|((first|apply cG|apply cH|apply cF)<;>intro h<;>try simp only [h]))
  all_goals rfl
 | true =>
  rw [hv] at hV
  by_cases h4:(4000:Int) < (s.length:Int)
  ·have hd4:decide ((4000:Int) < (s.length:Int))=true:=decide_eq_true h4
   have hB:qF x s=false:=by
    rw [qF,show decide (s.length<=4000)=false from decide_eq_false (by omega)]; simp
   rw [show qE x s=[] by simp [qE,hB],hB]
   refine cW aGh [] ?_
   dsimp only [aGh,cT,c7]
   repeat' (first|(simp only [hd4,aWx,aWy,aWA,↓eA,cJ,cO,cR,↓wA,↓wC,wB,cL,cK,aD,aE,aF,reduceIte,reduceCtorEq,aA,aG])|(refine cI hV rfl rfl ?_)|(refine cI hP rfl rfl ?_)|((first|apply cG|apply cH|apply cF)<;>intro h<;>try simp only [h]))
   all_goals rfl
  ·have hd4:decide ((4000:Int) < (s.length:Int))=false:=decide_eq_false h4
   by_cases h3:(30:Int) < ((parts 10 s).length:Int)
   ·have hd3:decide ((30:Int) < ((parts 10 s).length:Int))=true:=decide_eq_true h3
    have hB:qF x s=false:=by
     rw [qF,show decide ((parts 10 s).length<=30)=false from decide_eq_false (by omega)]; simp
    rw [show qE x s=[] by simp [qE,hB],hB]
    refine cW aGh [] ?_
    dsimp only [aGh,cT,c7]
    repeat' (first|(simp only [hd4,hd3,cO,cR,aWx,aWy,aWA,↓eA,cJ,↓wA,↓wC,wB,cL,cK,aD,aE,aF,reduceIte,reduceCtorEq,aA,aG])|(refine cI hV rfl rfl ?_)|(refine cI hP rfl rfl ?_)|((first|apply cG|apply cH|apply cF)<;>intro h<;>try simp only [h]))
    all_goals rfl
   ·have hd3:decide ((30:Int) < ((parts 10 s).length:Int))=false:=decide_eq_false h3
    have hB:qF x s=true:=by simp [qF,hv]; omega
    rw [show qE x s=(vU x (parts 10 s)).2 by simp [qE,hB],hB]
    have hle:∀ l∈parts 10 s,l.length<=s.length:=fun l hm=>yG 10 s l hm
    generalize parts 10 s=L at hP hd3 h3 hle
    refine cW aGh [] ?_
    dsimp only [aGh,cT,c7]
    repeat' (first|(simp only [hd4,hd3,cO,cR,aWx,aWy,aWA,↓eA,cJ,↓wA,↓wC,wB,cL,cK,aD,aE,aF,reduceIte,reduceCtorEq,aA,aG])|(refine cI hV rfl rfl ?_)|(refine cI hP rfl rfl ?_)|((first|apply cG|apply cH|apply cF)<;>intro h<;>try simp only [h]))
    refine dR L.length (fun i:Nat=>⟨[(2,.ptr 0 0 []),(6,.own 1),(7,.d (.sl false 1 (dl D.str L))),(9,.d (.int .i64 i))],[.box (vU x (L.take i)).1.s,.val (.sl true 1 (dl D.str (vU x (L.take i)).2))]⟩) (fun _=>True) (cU _ rfl ⟨⟨rfl,rfl⟩,⟨rfl,rfl⟩,⟨rfl,rfl⟩,⟨rfl,rfl⟩,trivial⟩) trivial ?_ ?_
    ·intro i hlt _ hd h0
     obtain ⟨l,hr⟩:=dQ hlt
     have hk:=vB i (L:=L) h (by omega)
     have hll:=hle l (aC hr)
     have hX:=aAO _ l hk.1 (by omega)
     have hnx:=aEU (x:=x) hr
     generalize vU x (L.take i)=p at hX hnx hk
     repeat' (first|(simp only [hd,h0,hr,Int.toNat_natCast,Option.map_some,cO,c6,cR,aWx,aWy,aWA,↓eA,cJ,↓wA,↓wC,wB,cL,cK,aD,aE,aF,reduceIte,reduceCtorEq,aA,aG])|(refine cQ rfl ?_)|(refine dL ?_)|(with_reducible refine And.intro ?_ ?_)|(refine cI hX rfl rfl ?_)|(refine cQ (fun h=>by cases h) ?_)|(with_reducible refine cQ ?_ ?_; focus ((try simp only [cO]); omega))|(refine cP (by simp only [dW]; omega) ?_)|((first|apply cG|apply cH|apply cF)<;>intro h<;>try simp only [h]))
     all_goals
      refine ⟨i + 1,?_,by omega,by omega⟩
      rw [hnx]
      (try simp only [aCw])
      exact (cU _ rfl ⟨⟨rfl,rfl⟩,⟨rfl,rfl⟩,⟨rfl,rfl⟩,⟨rfl,rfl⟩,trivial⟩)
    ·intro _ hd
     have hk:=vB L.length (L:=L) h (by omega)
     rw [aB] at hk ⊢
     repeat' (first|(simp only [hd,cO,cJ,↓wA,↓wC,wB,cL,cK,aD,aE,aF,reduceIte,reduceCtorEq,aA,aG])|((first|apply cG|apply cH|apply cF)<;>intro h<;>try simp only [h]))
theorem aNE (x:Con) (s:List UInt8) (h:x.ok0):(qE x s).length<=30:=by
 unfold qE
 split
 ·rename_i hb
  have hk:=(vB (parts 10 s).length (L:=parts 10 s) h (Nat.le_refl _)).2
  rw [aB] at hk
  simp only [qF,Bool.and_eq_true,decide_eq_true_eq] at hb
  omega
 ·exact Nat.zero_le _
theorem lawScript_fn (x:Con) (l:List UInt8) (hr:x.raw) (hl:l.length<=maxLen):Fn prog 5 [x.s,.str l] (fun rs=>rs=[.bool true]):=by
 by_cases hL:1048576 < (l.length:Int)
 ·have hd:decide (1048576 < (l.length:Int))=true:=decide_eq_true hL
  refine cW ef5 [[1,0,0]] ?_
  dsimp only [ef5,cT,c7]
  repeat' (first|(simp only [hd,aWx,aWy,↓eA,cJ,↓wA,↓wC,wB,cL,cK,aD,aE,aF,reduceIte,reduceCtorEq,aA,aG])|((first|apply cG|apply cH|apply cF)<;>intro h<;>try simp only [h]))
  refine c8 (gI 0 rfl) ?_
  simp only [cL,cK,aWB,↓wA,↓wC,wB,cL,cK,aD,aE,aF,reduceIte,reduceCtorEq,aA,aG]
  repeat' (first|(simp only [hd,aWx,aWy,↓eA,cJ,↓wA,↓wC,wB,cL,cK,aD,aE,aF,reduceIte,reduceCtorEq,aA,aG])|((first|apply cG|apply cH|apply cF)<;>intro h<;>try simp only [h]))
 have hd:decide (1048576 < (l.length:Int))=false:=decide_eq_false hL
 refine cW ef5 [[1,0,0]] ?_
 dsimp only [ef5,cT,c7]
 repeat' (first|(simp only [hd,aWx,aWy,↓eA,cJ,↓wA,↓wC,wB,cL,cK,aD,aE,aF,reduceIte,reduceCtorEq,aA,aG])|((first|apply cG|apply cH|apply cF)<;>intro h<;>try simp only [h]))
 refine c8 (gI 0 rfl) ?_
 simp only [cL,cK,aWB,↓wA,↓wC,wB,cL,cK,aD,aE,aF,reduceIte,reduceCtorEq,aA,aG]
 repeat' (first|(simp only [hd,aWx,aWy,↓eA,cJ,↓wA,↓wC,wB,cL,cK,aD,aE,aF,reduceIte,reduceCtorEq,aA,aG])|((first|apply cG|apply cH|apply cF)<;>intro h<;>try simp only [h]))
 refine lT (zA x hr) (by simp [dB,dI,aWB]) fun rs h=>?_
 obtain ⟨m,rfl,m1,m2,m3⟩:=h
 refine ⟨.inl rfl,?_⟩
 cases hm:decide (m < 0) with
 | true =>
  repeat' (first|(simp only [hm,↓wA,↓wC,wB,cL,cK,aD,aE,aF,reduceIte,reduceCtorEq,aA,aG])|((first|apply cG|apply cH|apply cF)<;>intro h<;>try simp only [h]))
 | false =>
  have hm':=of_decide_eq_false hm
  have ho:=m3 (by omega)
  have hS:Fn prog 17 [x.s,.str l] (fun rs=>rs=[.sl false 1 (dl D.str (qE x l)),.bool (qF x l)]):=by simpa [D.unown,fA] using fX (zU x l ho (by omega))
  have hI:=aAy x l ho (by omega)
  have hT:=wG x ho
  have hTs:Fn prog 12 [x.s] (fun rs=>rs=[x.s]):=by simpa [aWJ] using fX hT
  have hx:=aNE x l ho
  generalize qE x l=R at hS hI hx
  generalize qF x l=b at hS hI
  have hE:=pQ x ho
  have hEs:=uM R (by omega)
  have bo:=pD x.o.cs ho.1.1.2
  have lo:=ho.1.2.1
  have hMo:=pP x 1 (by omega) (by omega) ho.1
  have hMs:=aFQ R 1 (by omega) (by omega) (by omega)
  have hH:=aHy R.length 1 (by omega) (by omega) (by omega)
  have n1:decide (1 + j4 x.o.cs + (x.o.led.length:Int) < 0)=false:=decide_eq_false (by omega)
  have n3:decide (1 + (R.length:Int) < 0)=false:=decide_eq_false (by omega)
  have hbb:(b == b)=true:=by cases b<;>rfl
  have hoA:([D.sl true 1 (dl D.str R),.bool b].all D.allOwn)=true:=by simp [D.allOwn,aHN]
  have hno:∀ q:Con,q.o'.noOwn=false:=fun q=>by simp [Con.o',oZ,D.noOwn,aWP]
  have hoB:∀ q:Con,q.o'.isStB=true:=fun q=>rfl
  repeat' (first|(simp only [hm,aWx,aWy,aWA,aWB,↓eA,cJ,↓wA,↓wC,wB,cL,cK,aD,aE,aF,reduceIte,reduceCtorEq,aA,aG])|((first|apply cG|apply cH|apply cF)<;>intro h<;>try simp only [h]))
  refine cI hTs rfl rfl ?_
  repeat' (first|(simp only [cR,aWx,aWy,aWA,aWB,↓eA,cJ,↓wA,↓wC,wB,cL,cK,aD,aE,aF,reduceIte,reduceCtorEq,aA,aG])|(refine cI hS rfl rfl ?_)|((first|apply cG|apply cH|apply cF)<;>intro h<;>try simp only [h]))
  repeat' (first|(simp only [cR,fA,hbb,cO,aWx,aWy,aWA,aWB,aWL,aWI,hno,hoB,↓eA,cJ,n1,n3,decide_true,↓wA,↓wC,wB,cL,cK,aD,aE,aF,reduceIte,reduceCtorEq,aA,aG])|(refine cI hT rfl rfl ?_)|(refine cI hI (by show some [x.o'.unown,D.str l]=_; rw [aWJ]) (by rw [hoA,Bool.or_true]) ?_)|(refine cI hEs (by show some [D.sl false 1 (dl D.str R).unown,D.sl false 1 (dl D.str R)]=_; rw [fA]) rfl ?_)|(refine cM hTs (by simp [dB,dI,aWB]) rfl ?_)|(refine cM hE (congrArg (fun d:D=>some [d,x.s]) (aWJ x)) rfl ?_)|(refine xH hMo rfl rfl rfl ?_)|(refine mN hMs rfl rfl rfl ?_)|(refine cI hH (by show some [D.sl false 1 (dl D.str (sN R.length 1)).unown,.int .i64 1]=_; rw [fA]) rfl ?_)|((first|apply cG|apply cH|apply cF)<;>intro h<;>try simp only [h]))
theorem lawScript (x0 x1:D) (h0:jR conSh x0) (h1:jR .str x1):Fn prog 5 [x0,x1] (fun rs=>rs=[.bool true]):=by
 obtain ⟨x,rfl,hr⟩:=aLM x0 h0
 obtain ⟨l,rfl,hl⟩:=aI2 x1 h1
 exact lawScript_fn x l hr hl
end Go.Pe.Tryz
