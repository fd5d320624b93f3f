/- Roots of ledgers: hashes, rounds (the reference's), walked; Roots of ledgers: the loops, walked (the program's round is taken as told: roundOK); The library's iterator over the pieces of a slice of numbers, two at a time: its contract; The program's round: the body of its loop, walked; what it is behind the loop; The program's round, walked to its end: what is asked of it (roundOK) is so; The root of an office's ledger, walked (the program's round as told: roundOK); What draws: an office and a hold, an office and a number of a case -/
import Derived.Test.YtmkmjcgkcpmmpaaGreatDoorW4
import Derived.Test.YtmkmjcgkcpmmpaaGreatDoorW1
import Derived.RangeFuncNested
import Derived.RangeFuncBound
import Derived.RangeFuncCalls
import Derived.RangeFuncBox
import Derived.RangeFuncLeaves
import Derived.Shelf.Abstract
import Derived.Shelf.RegionOpen
import Derived.RegionTactic
import Derived.RegionIn
import Derived.WalkKit
import Derived.OwnWalkIn
import Derived.TacticsInMore
import Derived.LoopNIn
import Derived.LoopIn
import Derived.Test.YtmkmjcgkcpmmpaaGreatDoorProg
import Derived.Test.YtmkmjcgkcpmmpaaGreatDoorPeD
import Derived.Test.YtmkmjcgkcpmmpaaGreatDoorMc1
import Derived.Test.YtmkmjcgkcpmmpaaGreatDoorMc2
import Derived.Test.YtmkmjcgkcpmmpaaGreatDoorMc3
import Derived.Test.YtmkmjcgkcpmmpaaGreatDoorMc4
import Derived.Test.YtmkmjcgkcpmmpaaGreatDoorMc5
import Derived.Maps.AppendAt
set_option maxRecDepth 100000
set_option maxHeartbeats 4000000
set_option linter.all false
namespace Go.Pe.Tryz
open Nat (reduceEqDiff reduceAdd reduceSub reduceLT)
open Go.Proofs.Tryz
def jO (s:List UInt8):Int:=ck (108 :: s)
def qG (a b:Int):Int:=ck (110 :: (Lib.itoa a ++ 44 :: Lib.itoa b))
def eQ:List Int->List Int
 | a :: b :: r=>qG a b :: eQ r
 | l=>l
def gK (n:Int):Prop:=0<=n/\n < 999979
theorem mE {n:Int} (h:gK n):cV .i64 n:=by
 obtain ⟨h1,h2⟩:=h
 simp only [cV]; omega
theorem aI2 (s:List UInt8):gK (jO s):=aFS _
theorem aHM (a b:Int):gK (qG a b):=aFS _
theorem wN:∀ v:List Int,(∀ n∈v,gK n)->∀ n∈eQ v,gK n
 | [],h=>h
 | [a],h=>h
 | a :: b :: r,h=>by
  intro n hn
  rcases List.mem_cons.1 hn with rfl|hn
  ·exact aHM a b
  ·exact wN r (fun m hm=>h m (List.mem_cons_of_mem _ (List.mem_cons_of_mem _ hm))) n hn
theorem nM:∀ v:List Int,(eQ v).length=(v.length + 1) / 2
 | []=>by simp [eQ]
 | [a]=>by simp [eQ]
 | a :: b :: r=>by
  have:=nM r
  simp only [eQ,List.length_cons]
  omega
theorem tU:∀ (xs ys:List Int),xs.length % 2=0->eQ (xs ++ ys)=eQ xs ++ eQ ys
 | [],ys,_=>rfl
 | [a],ys,h=>by simp at h
 | a :: b :: r,ys,h=>by
  have:=tU r ys (by simp only [List.length_cons] at h; omega)
  simp only [List.cons_append,eQ,this]
theorem aEd {v:List Int} {i:Nat} {a b:Int} (he:i % 2=0) (ha:v[i]?=some a) (hb:v[i + 1]?=some b):eQ (v.take (i + 2))=eQ (v.take i) ++ [qG a b]:=by
 have hi:=bC ha
 rw [fF hb,fF ha,List.append_assoc,tU _ _ (by rw [List.length_take,Nat.min_eq_left (by omega)]; exact he)]
 rfl
theorem aE6 {v:List Int} {i:Nat} {a:Int} (he:i % 2=0) (ha:v[i]?=some a) (hb:v.length<=i + 1):eQ (v.take (i + 2))=eQ (v.take i) ++ [a]:=by
 have hi:=bC ha
 have e:v.take (i + 2)=v.take (i + 1):=by rw [List.take_of_length_le (by omega),List.take_of_length_le (by omega)]
 rw [e,fF ha,tU _ _ (by rw [List.length_take,Nat.min_eq_left (by omega)]; exact he)]
 rfl
theorem uM (s:List UInt8) (hl:s.length<=4000):Fn prog 129 [.str s] (fun rs=>rs=[.int .i64 (ck s),.bool true]):=by
 have h:=aD2 s (by rw [oT]; omega)
 have hd:decide ((s.length:Int) > 4000)=false:=decide_eq_false (by omega)
 have hd':decide ((4000:Int) < (s.length:Int))=false:=decide_eq_false (by omega)
 refine bV (fn:=f129) (by exact func129) aQn aSf (n:=9) (by rfl) (rv:=[.tmp 2,.tmp 3]) (by rfl) (by simp) ?_
 unfold aPv
 try simp only [wQ]
 repeat' (first|(simp only [hd,hd',↓wA,↓wC,wB,aY,aW,reduceEqDiff,reduceAdd,reduceSub,reduceIte,reduceCtorEq,Nat.reduceBEq,reduceLT])|(refine aZ (h) rfl rfl ?_)|(refine a6 (h) rfl rfl ?_)|((first|apply aO|apply aQ|apply aK)<;>intro h<;>try simp only [h]))
theorem aBZ (s:List UInt8) (hl:s.length<=100):Fn prog 110 [.str s] (fun rs=>rs=[.int .i64 (jO s)]):=by
 have h:=uM (108 :: s) (by simp only [List.length_cons]; omega)
 refine bV (fn:=f110) (by exact func110) aSi aSb (n:=12) (by rfl) (rv:=[.tmp 2]) (by rfl) (by simp) ?_
 unfold aOD
 try simp only [wQ]
 repeat' (first|(simp only [aV,↓wA,↓wC,wB,aY,aW,reduceEqDiff,reduceAdd,reduceSub,reduceIte,reduceCtorEq,Nat.reduceBEq,reduceLT])|(refine aZ (h) rfl rfl ?_)|(refine a6 (h) rfl rfl ?_)|(with_reducible refine bK ?_ ?_; focus ((try simp only [List.length_append,List.length_cons,List.length_nil]); omega))|((first|apply aO|apply aQ|apply aK)<;>intro h<;>try simp only [h]))
 all_goals rfl
theorem aEg (s:List UInt8) (hl:s.length<=100):Fn prog 113 [.str s] (fun rs=>rs=[.int .i64 (jO s)]):=by
 have h:=aCF (108 :: s) (by rw [oT]; simp only [List.length_cons]; omega)
 refine bV (fn:=f113) (by exact func113) aR4 aSe (n:=6) (by rfl) (rv:=[.tmp 2]) (by rfl) (by simp) ?_
 unfold aPb
 try simp only [wQ]
 repeat' (first|(simp only [aV,↓wA,↓wC,wB,aY,aW,reduceEqDiff,reduceAdd,reduceSub,reduceIte,reduceCtorEq,Nat.reduceBEq,reduceLT])|(refine aZ (h) rfl rfl ?_)|(refine a6 (h) rfl rfl ?_)|(with_reducible refine bK ?_ ?_; focus ((try simp only [List.length_append,List.length_cons,List.length_nil]); omega))|((first|apply aO|apply aQ|apply aK)<;>intro h<;>try simp only [h]))
 all_goals rfl
theorem aD0 (a b:Int) (ha:gK a) (hb:gK b):Fn prog 112 [.int .i64 a,.int .i64 b] (fun rs=>rs=[.int .i64 (qG a b)]):=by
 have l1:=fA a (mE ha)
 have l2:=fA b (mE hb)
 have d1:=lO a (mE ha)
 have d2:=lO b (mE hb)
 have h:=uM (110 :: (Lib.itoa a ++ 44 :: Lib.itoa b)) (by simp only [List.length_cons,List.length_append]; omega)
 refine bV (fn:=f112) (by exact func112) aRJ aRX (n:=19) (by rfl) (rv:=[.tmp 4]) (by rfl) (by simp) ?_
 unfold aOz
 try simp only [wQ]
 repeat' (first|(simp only [aV,List.append_assoc,List.cons_append,List.nil_append,↓wA,↓wC,wB,aY,aW,reduceEqDiff,reduceAdd,reduceSub,reduceIte,reduceCtorEq,Nat.reduceBEq,reduceLT])|(refine aZ (d1) rfl rfl ?_)|(refine a6 (d1) rfl rfl ?_)|(refine aZ (d2) rfl rfl ?_)|(refine a6 (d2) rfl rfl ?_)|(refine aZ (h) rfl rfl ?_)|(refine a6 (h) rfl rfl ?_)|(with_reducible refine bK ?_ ?_; focus ((try simp only [List.length_append,List.length_cons,List.length_nil]); omega))|((first|apply aO|apply aQ|apply aK)<;>intro h<;>try simp only [h]))
 all_goals rfl
theorem aEC (a b:Int) (ha:gK a) (hb:gK b):Fn prog 114 [.int .i64 a,.int .i64 b] (fun rs=>rs=[.int .i64 (qG a b)]):=by
 have l1:=fA a (mE ha)
 have l2:=fA b (mE hb)
 have d1:=l7 a ha.1 (mE ha)
 have d2:=l7 b hb.1 (mE hb)
 have h:=aCF (110 :: (Lib.itoa a ++ 44 :: Lib.itoa b)) (by rw [oT]; simp only [List.length_cons,List.length_append]; omega)
 refine bV (fn:=f114) (by exact func114) aSB aQA (n:=13) (by rfl) (rv:=[.tmp 4]) (by rfl) (by simp) ?_
 unfold aOh
 try simp only [wQ]
 repeat' (first|(simp only [aV,List.append_assoc,List.cons_append,List.nil_append,↓wA,↓wC,wB,aY,aW,reduceEqDiff,reduceAdd,reduceSub,reduceIte,reduceCtorEq,Nat.reduceBEq,reduceLT])|(refine aZ (d1) rfl rfl ?_)|(refine a6 (d1) rfl rfl ?_)|(refine aZ (d2) rfl rfl ?_)|(refine a6 (d2) rfl rfl ?_)|(refine aZ (h) rfl rfl ?_)|(refine a6 (h) rfl rfl ?_)|(with_reducible refine bK ?_ ?_; focus ((try simp only [List.length_append,List.length_cons,List.length_nil]); omega))|((first|apply aO|apply aQ|apply aK)<;>intro h<;>try simp only [h]))
 all_goals rfl
theorem aBS (L:List (List UInt8)) (hl:L.length<=8) (hx:∀ s∈L,s.length<=100):Fn prog 93 [.sl false 1 (dl D.str L)] (fun rs=>rs=[.sl true 1 (dl iD (L.map jO))]):=by
 refine bV (fn:=f93) (by exact func93) c93 r93 (n:=21) (by rfl) (rv:=[.tmp 2]) (by rfl) (by simp) ?_
 unfold m93
 try simp only [wQ]
 repeat' (first|(simp only [aV,a7,↓wA,↓wC,wB,aY,aW,reduceEqDiff,reduceAdd,reduceSub,reduceIte,reduceCtorEq,Nat.reduceBEq,reduceLT])|((first|apply aO|apply aQ|apply aK)<;>intro h<;>try simp only [h]))
 refine cP L.length (fun i:Nat=>⟨[(0,.d (.sl false 1 (dl D.str L))),(3,.own 0),(4,.d (.int .i64 i))],[.val (.sl true 1 (dl iD ((L.take i).map jO)))]⟩) (fun _=>True) (bF _ rfl ⟨⟨rfl,rfl⟩,⟨rfl,rfl⟩,⟨rfl,rfl⟩,trivial⟩) trivial ?_ ?_
 ·intro i hlt _ hd h0
  obtain ⟨s,hr⟩:=cK hlt
  have h:=aEg s (hx s (List.mem_of_getElem? hr))
  have hsn:(L.take (i + 1)).map jO=(L.take i).map jO ++ [jO s]:=by rw [fF hr,List.map_append]; rfl
  have hvl:((L.take i).map jO).length<=8:=by simp; omega
  repeat' (first|(simp only [a7,hd,h0,bW,Int.toNat_natCast,hr,Option.map_some,aV,eS,↓wA,↓wC,wB,aY,aW,reduceEqDiff,reduceAdd,reduceSub,reduceIte,reduceCtorEq,Nat.reduceBEq,reduceLT])|(refine aZ (h) rfl rfl ?_)|(refine a6 (h) rfl rfl ?_)|(with_reducible refine bA ?_ ?_; focus (simp only [cV]; omega))|(with_reducible refine bK ?_ ?_; focus omega)|(with_reducible refine bK ?_ ?_; focus (simp; done))|((first|apply aO|apply aQ|apply aK)<;>intro h<;>try simp only [h]))
  refine ⟨i + 1,?_,by omega,by omega⟩
  rw [hsn]
  exact (bF _ rfl ⟨⟨rfl,rfl⟩,⟨rfl,rfl⟩,⟨rfl,rfl⟩,trivial⟩)
 ·intro _ hd
  repeat' (first|(simp only [hd,a7,List.take_length,↓wA,↓wC,wB,aY,aW,reduceEqDiff,reduceAdd,reduceSub,reduceIte,reduceCtorEq,Nat.reduceBEq,reduceLT])|((first|apply aO|apply aQ|apply aK)<;>intro h<;>try simp only [h]))
theorem aCW (L:List (List UInt8)) (hl:L.length<=8) (hx:∀ s∈L,s.length<=100):Fn prog 91 [.sl false 1 (dl D.str L)] (fun rs=>rs=[.sl true 1 (dl iD (L.map jO))]):=by
 refine bV (fn:=f91) (by exact func91) c91 r91 (n:=19) (by rfl) (rv:=[.tmp 2]) (by rfl) (by simp) ?_
 unfold m91
 try simp only [wQ]
 repeat' (first|(simp only [aV,a7,↓wA,↓wC,wB,aY,aW,reduceEqDiff,reduceAdd,reduceSub,reduceIte,reduceCtorEq,Nat.reduceBEq,reduceLT])|((first|apply aO|apply aQ|apply aK)<;>intro h<;>try simp only [h]))
 refine w4 [(3,1)] L.length (fun i:Nat=>⟨[(3,.own 0),(6,.d (.sl false 1 (dl D.str L))),(7,.d (.int .i64 L.length)),(8,.d (.int .i64 i))],[.val (.sl true 1 (dl iD ((L.take i).map jO)))]⟩) (fun _=>True) ⟨rfl,trivial⟩ ?_ trivial ?_ ?_
 ·exact (bF _ rfl ⟨⟨rfl,rfl⟩,⟨rfl,rfl⟩,⟨rfl,rfl⟩,⟨rfl,rfl⟩,trivial⟩)
 ·intro i hlt _ hd h0
  obtain ⟨s,hr⟩:=cK hlt
  have h:=aBZ s (hx s (List.mem_of_getElem? hr))
  have hsn:(L.take (i + 1)).map jO=(L.take i).map jO ++ [jO s]:=by rw [fF hr,List.map_append]; rfl
  have hvl:((L.take i).map jO).length<=8:=by simp; omega
  repeat' (first|(simp only [a7,hd,h0,bW,Int.toNat_natCast,hr,Option.map_some,aV,eS,↓wA,↓wC,wB,aY,aW,reduceEqDiff,reduceAdd,reduceSub,reduceIte,reduceCtorEq,Nat.reduceBEq,reduceLT])|(refine aZ (h) rfl rfl ?_)|(refine a6 (h) rfl rfl ?_)|(with_reducible refine bA ?_ ?_; focus (simp only [cV]; omega))|(with_reducible refine bK ?_ ?_; focus omega)|(with_reducible refine bK ?_ ?_; focus (simp; done))|((first|apply aO|apply aQ|apply aK)<;>intro h<;>try simp only [h]))
  refine ⟨i + 1,?_,by omega,by omega⟩
  rw [hsn]
  exact (bF _ rfl ⟨⟨rfl,rfl⟩,⟨rfl,rfl⟩,⟨rfl,rfl⟩,⟨rfl,rfl⟩,trivial⟩)
 ·intro _ hd
  repeat' (first|(simp only [hd,a7,List.take_length,↓wA,↓wC,wB,aY,aW,reduceEqDiff,reduceAdd,reduceSub,reduceIte,reduceCtorEq,Nat.reduceBEq,reduceLT])|((first|apply aO|apply aQ|apply aK)<;>intro h<;>try simp only [h]))
theorem aCQ (v:List Int) (hl:v.length<=1000) (hv:∀ n∈v,gK n):Fn prog 94 [.sl false 1 (dl iD v)] (fun rs=>rs=[.sl true 1 (dl iD (eQ v))]):=by
 refine bV (fn:=f94) (by exact func94) c94 r94 (n:=38) (by rfl) (rv:=[.tmp 2]) (by rfl) (by simp) ?_
 unfold m94
 try simp only [wQ]
 repeat' (first|(simp only [aV,a7,↓wA,↓wC,wB,aY,aW,reduceEqDiff,reduceAdd,reduceSub,reduceIte,reduceCtorEq,Nat.reduceBEq,reduceLT])|((first|apply aO|apply aQ|apply aK)<;>intro h<;>try simp only [h]))
 refine dZ (fun i:Nat=>⟨[(0,.d (.sl false 1 (dl iD v))),(3,.own 0),(4,.d (.int .i64 i))],[.val (.sl true 1 (dl iD (eQ (v.take i))))]⟩) (fun i=>i % 2=0/\i<=v.length + 1) (fun i=>v.length + 2 - i) 0 (bF _ rfl ⟨⟨rfl,rfl⟩,⟨rfl,rfl⟩,⟨rfl,rfl⟩,trivial⟩) ⟨rfl,by omega⟩ ?_
 rintro i ⟨i1,i2⟩
 by_cases hlt:i < v.length
 ·obtain ⟨a,ha⟩:=cK hlt
  have hA:=hv a (List.mem_of_getElem? ha)
  have hd:decide ((i:Int) < (v.length:Int))=true:=decide_eq_true (by omega)
  have h0:(0:Int)<=(i:Int):=by omega
  have hrl:=nM (v.take i)
  rw [List.length_take,Nat.min_eq_left (by omega)] at hrl
  by_cases h2:i + 1 < v.length
  ·obtain ⟨b,hb⟩:=cK h2
   have hB:=hv b (List.mem_of_getElem? hb)
   have hP:=aEC a b hA hB
   have hsn:=aEd i1 ha hb
   have hd2:decide ((i:Int) + 1 < (v.length:Int))=true:=decide_eq_true (by omega)
   have h02:(0:Int)<=(i:Int) + 1:=by omega
   have hcast:((i:Int) + 1).toNat=i + 1:=by omega
   repeat' (first|(simp only [a7,hd,h0,hd2,h02,hcast,bW,Int.toNat_natCast,ha,hb,Option.map_some,aV,e9,iD,eS,↓wA,↓wC,wB,aY,aW,reduceEqDiff,reduceAdd,reduceSub,reduceIte,reduceCtorEq,Nat.reduceBEq,reduceLT])|(refine aZ (hP) rfl rfl ?_)|(refine a6 (hP) rfl rfl ?_)|(refine cT ?_)|(with_reducible refine bA ?_ ?_; focus (simp only [cV]; omega))|(with_reducible refine bK ?_ ?_; focus omega)|(with_reducible refine bK ?_ ?_; focus (simp; done))|((first|apply aO|apply aQ|apply aK)<;>intro h<;>try simp only [h]))
   all_goals
    refine ⟨i + 2,?_,⟨by omega,by omega⟩,by omega⟩
    rw [hsn]
    exact (bF _ rfl ⟨⟨rfl,rfl⟩,⟨rfl,rfl⟩,⟨rfl,rfl⟩,trivial⟩)
  ·have hsn:=aE6 i1 ha (by omega)
   have hd2:decide ((i:Int) + 1 < (v.length:Int))=false:=decide_eq_false (by omega)
   repeat' (first|(simp only [a7,hd,h0,hd2,bW,Int.toNat_natCast,ha,Option.map_some,aV,e9,iD,eS,↓wA,↓wC,wB,aY,aW,reduceEqDiff,reduceAdd,reduceSub,reduceIte,reduceCtorEq,Nat.reduceBEq,reduceLT])|(refine cT ?_)|(with_reducible refine bA ?_ ?_; focus (simp only [cV]; omega))|(with_reducible refine bK ?_ ?_; focus omega)|(with_reducible refine bK ?_ ?_; focus (simp; done))|((first|apply aO|apply aQ|apply aK)<;>intro h<;>try simp only [h]))
   all_goals
    refine ⟨i + 2,?_,⟨by omega,by omega⟩,by omega⟩
    rw [hsn]
    exact (bF _ rfl ⟨⟨rfl,rfl⟩,⟨rfl,rfl⟩,⟨rfl,rfl⟩,trivial⟩)
 ·have hd:decide ((i:Int) < (v.length:Int))=false:=decide_eq_false (by omega)
  have e:v.take i=v:=List.take_of_length_le (by omega)
  rw [e]
  repeat' (first|(simp only [a7,hd,↓wA,↓wC,wB,aY,aW,reduceEqDiff,reduceAdd,reduceSub,reduceIte,reduceCtorEq,Nat.reduceBEq,reduceLT])|((first|apply aO|apply aQ|apply aK)<;>intro h<;>try simp only [h]))
end Go.Pe.Tryz
set_option maxRecDepth 100000
set_option maxHeartbeats 4000000
set_option linter.all false
namespace Go.Pe.Tryz
open Nat (reduceEqDiff reduceAdd reduceSub reduceLT)
open Go.Proofs.Tryz
def pE (v:List Int):Int:=if h:v.length<=1 then v.headD 0 else pE (eQ v)
termination_by v.length
decreasing_by rw [nM]; omega
theorem aBn {v:List Int} {a:Int} (h:v.length<=1) (ha:v[0]?=some a):pE v=a:=by
 rw [pE,dif_pos h]
 cases v with
 | nil=>simp at ha
 | cons b r=>simpa using ha
theorem aAs {v:List Int} (h:¬ v.length<=1):pE (eQ v)=pE v:=by
 conv=>rhs; rw [pE,dif_neg h]
theorem aIY:Int.toNat 0=0:=rfl
theorem aO4:((0:Int)<=0)=True:=by simp
theorem aA0 (L:List (List UInt8)):∀ n∈L.map jO,gK n:=by
 intro n hn
 obtain ⟨s,_,rfl⟩:=List.mem_map.1 hn
 exact aI2 s
theorem aEI (L:List (List UInt8)) (hl:L.length<=8) (h1:1<=L.length) (hx:∀ s∈L,s.length<=100):Fn prog 63 [.sl false 1 (dl D.str L)] (fun rs=>rs=[.int .i64 (pE (L.map jO))]):=by
 have hL:=aBS L hl hx
 refine bV (fn:=f63) (by exact func63) c63 r63 (n:=14) (by rfl) (rv:=[.tmp 2]) (by rfl) (by simp) ?_
 unfold m63
 try simp only [wQ]
 repeat' (first|(simp only [aV,↓wA,↓wC,wB,aY,aW,reduceEqDiff,reduceAdd,reduceSub,reduceIte,reduceCtorEq,Nat.reduceBEq,reduceLT])|(refine aZ (hL) rfl rfl ?_)|(refine a6 (hL) rfl rfl ?_)|((first|apply aO|apply aQ|apply aK)<;>intro h<;>try simp only [h]))
 refine dZ (fun x:List Int=>⟨[(3,.d (.sl false 1 (dl iD x)))],[]⟩) (fun x=>pE x=pE (L.map jO)/\(∀ n∈x,gK n)/\1<=x.length/\x.length<=8) (fun x=>x.length) (L.map jO) ((aJc 0 rfl).trans (bF _ rfl ⟨⟨by simp only [jX,iZ,D.unown,c9,↓wA,↓wC,wB,aY,aW,reduceEqDiff,reduceAdd,reduceSub,reduceIte,reduceCtorEq,Nat.reduceBEq,reduceLT],rfl⟩,trivial⟩)) ⟨rfl,aA0 L,by simpa using h1,by simpa using hl⟩ ?_
 rintro x ⟨x1,x2,x3,x4⟩
 have hR:=aCQ x (by omega) x2
 have hrl:=nM x
 have hoA:([D.sl true 1 (dl iD (eQ x))].all D.allOwn)=true:=by simp [D.allOwn,wE aA8]
 by_cases hgt:1 < x.length
 ·have hd:decide ((1:Int) < (x.length:Int))=true:=decide_eq_true (by omega)
  repeat' (first|(simp only [a7,hd,aV,↓wA,↓wC,wB,aY,aW,reduceEqDiff,reduceAdd,reduceSub,reduceIte,reduceCtorEq,Nat.reduceBEq,reduceLT])|(refine aZ hR rfl rfl ?_)|((first|apply aO|apply aQ|apply aK)<;>intro h<;>try simp only [h]))
  refine ⟨eQ x,((aJc 0 rfl).trans (bF _ rfl ⟨⟨by simp only [jX,iZ,D.unown,c9,↓wA,↓wC,wB,aY,aW,reduceEqDiff,reduceAdd,reduceSub,reduceIte,reduceCtorEq,Nat.reduceBEq,reduceLT],rfl⟩,trivial⟩)),⟨(aAs (by omega)).trans x1,wN x x2,by omega,by omega⟩,by omega⟩
 ·have hd:decide ((1:Int) < (x.length:Int))=false:=decide_eq_false (by omega)
  obtain ⟨a,ha⟩:=cK (show 0 < x.length by omega)
  have hro:=aBn (by omega) ha
  repeat' (first|(simp only [a7,hd,aV,bW,aIY,aO4,bJ,ha,Option.map_some,e9,iD,↓wA,↓wC,wB,aY,aW,reduceEqDiff,reduceAdd,reduceSub,reduceIte,reduceCtorEq,Nat.reduceBEq,reduceLT])|((first|apply aO|apply aQ|apply aK)<;>intro h<;>try simp only [h]))
  all_goals rw [<- x1,hro]
def rU:Prop:=∀ v:List Int,v.length<=1000->(∀ n∈v,gK n)->Fn prog 92 [.sl false 1 (dl iD v)] (fun rs=>rs=[.sl true 1 (dl iD (eQ v))])
theorem aHc (hRd:rU) (L:List (List UInt8)) (hl:L.length<=1048576):Fn prog 62 [.sl false 1 (dl D.str L)] (fun rs=>rs=if d5 L=true then [.int .i64 (pE (L.map jO)),.bool true] else [.int .i64 0,.bool false]):=by
 have hV:=wS L hl
 cases hv:d5 L with
 | false =>
  rw [hv] at hV
  refine bV (fn:=f62) (by exact func62) c62 r62 (n:=18) (by rfl) (rv:=[.tmp 2,.tmp 3]) (by rfl) (by simp) ?_
  unfold m62
  try simp only [wQ]
  repeat' (first|(simp only [aV,↓wA,↓wC,wB,aY,aW,reduceEqDiff,reduceAdd,reduceSub,reduceIte,reduceCtorEq,Nat.reduceBEq,reduceLT])|(refine aZ (hV) rfl rfl ?_)|(refine a6 (hV) rfl rfl ?_)|((first|apply aO|apply aQ|apply aK)<;>intro h<;>try simp only [h]))
  all_goals simp
 | true =>
  rw [hv] at hV
  simp only [d5,Bool.and_eq_true,bX,decide_eq_true_eq,List.all_eq_true] at hv
  obtain ⟨⟨h1,h8⟩,hx⟩:=hv
  have hx':∀ s∈L,s.length<=100:=fun s hs=>by
   have:=hx s hs
   simp only [jB,Bool.and_eq_true] at this
   have:=tQ s.length this.1
   omega
  have hL:=aCW L (by omega) hx'
  refine bV (fn:=f62) (by exact func62) c62 r62 (n:=18) (by rfl) (rv:=[.tmp 2,.tmp 3]) (by rfl) (by simp) ?_
  unfold m62
  try simp only [wQ]
  repeat' (first|(simp only [aV,↓wA,↓wC,wB,aY,aW,reduceEqDiff,reduceAdd,reduceSub,reduceIte,reduceCtorEq,Nat.reduceBEq,reduceLT])|(refine aZ (hV) rfl rfl ?_)|(refine a6 (hV) rfl rfl ?_)|(refine aZ (hL) rfl rfl ?_)|(refine a6 (hL) rfl rfl ?_)|((first|apply aO|apply aQ|apply aK)<;>intro h<;>try simp only [h]))
  refine dZ (fun x:List Int=>⟨[(4,.d (.sl false 1 (dl iD x)))],[]⟩) (fun x=>pE x=pE (L.map jO)/\(∀ n∈x,gK n)/\1<=x.length/\x.length<=8) (fun x=>x.length) (L.map jO) ((aJc 0 rfl).trans (bF _ rfl ⟨⟨by simp only [jX,iZ,D.unown,c9,↓wA,↓wC,wB,aY,aW,reduceEqDiff,reduceAdd,reduceSub,reduceIte,reduceCtorEq,Nat.reduceBEq,reduceLT],rfl⟩,trivial⟩)) ⟨rfl,aA0 L,by simp; omega,by simp; omega⟩ ?_
  rintro x ⟨x1,x2,x3,x4⟩
  have hR:=hRd x (by omega) x2
  have hrl:=nM x
  have hoA:([D.sl true 1 (dl iD (eQ x))].all D.allOwn)=true:=by simp [D.allOwn,wE aA8]
  by_cases hgt:1 < x.length
  ·have hd:decide ((1:Int) < (x.length:Int))=true:=decide_eq_true (by omega)
   repeat' (first|(simp only [a7,hd,aV,↓wA,↓wC,wB,aY,aW,reduceEqDiff,reduceAdd,reduceSub,reduceIte,reduceCtorEq,Nat.reduceBEq,reduceLT])|(refine aZ hR rfl rfl ?_)|((first|apply aO|apply aQ|apply aK)<;>intro h<;>try simp only [h]))
   refine ⟨eQ x,((aJc 0 rfl).trans (bF _ rfl ⟨⟨by simp only [jX,iZ,D.unown,c9,↓wA,↓wC,wB,aY,aW,reduceEqDiff,reduceAdd,reduceSub,reduceIte,reduceCtorEq,Nat.reduceBEq,reduceLT],rfl⟩,trivial⟩)),⟨(aAs (by omega)).trans x1,wN x x2,by omega,by omega⟩,by omega⟩
  ·have hd:decide ((1:Int) < (x.length:Int))=false:=decide_eq_false (by omega)
   obtain ⟨a,ha⟩:=cK (show 0 < x.length by omega)
   have hro:=aBn (by omega) ha
   repeat' (first|(simp only [a7,hd,aV,bW,aIY,aO4,bJ,ha,Option.map_some,e9,iD,↓wA,↓wC,wB,aY,aW,reduceEqDiff,reduceAdd,reduceSub,reduceIte,reduceCtorEq,Nat.reduceBEq,reduceLT])|((first|apply aO|apply aQ|apply aK)<;>intro h<;>try simp only [h]))
   all_goals rw [<- x1,hro]
end Go.Pe.Tryz
set_option linter.all false
namespace Go.Proofs.ChkTryz
open Go.Proofs Go.RowKit Go.Shelf
attribute [local go_sem] Oper.semAt_some
def pY (n₀ Bs Bn:Nat) (W W':World):Prop:=Below n₀ W W'/\W'.heap[Bs]?=W.heap[Bs]?/\W'.heap[Bn]?=W.heap[Bn]?
theorem pY.refl (n₀ Bs Bn:Nat) (W:World):pY n₀ Bs Bn W W:=⟨Below.refl _ _,rfl,rfl⟩
theorem pY.trans {n₀ Bs Bn:Nat} {A B C:World} (h:pY n₀ Bs Bn A B) (k:pY n₀ Bs Bn B C):pY n₀ Bs Bn A C:=⟨h.1.trans k.1,k.2.1.trans h.2.1,k.2.2.trans h.2.2⟩
theorem pY.drew {n₀ Bs Bn:Nat} {A B:World} (h:pY n₀ Bs Bn A B):pY n₀ Bs Bn A B.drew:=⟨h.1.drew,h.2.1,h.2.2⟩
abbrev Ix (len:Nat):={ k:Nat // 2 * k < len }
def enc (b off len:Nat) (k:Nat):Array Value:=#[.slice (some ⟨b,off + 2 * k,none⟩) (min 2 (len - 2 * k)) (min 2 (len - 2 * k))]
theorem aD8 {β:Type} {B:Nat} {J:β->World->Prop} (h:AbidesFrom B J) {s:β} {W:World} (hs:J s W):J s W.drew :=
 h s W W.drew none hs ⟨rfl,rfl,rfl,Nat.le_refl _,fun _ _ _=>rfl⟩ (fun _ e=>by cases e)
set_option maxRecDepth 100000 in
set_option maxHeartbeats 4000000 in
theorem aGB (F:Fence) (n:Nat) (h7:F.fn 130) (hro:F.round=none) (hn:1<=n) (l Bs Bn n₀ b off len cap:Nat) (hcap:len<=cap) (hreach:len<=1048576) (hb:b < n₀) (J Jx:List (Ix len)->World->Prop) (hJ:∀ s W,J s W->J s W.drew)
  (hY:∀ pre x W,J pre W->pre.length < (len + 1) / 2->YieldAt F (n - 1) Tryz.prog l (enc b off len x.1) W fun e W' =>
   (e=.returned (.bool true)/\J (pre ++ [x]) W'/\pY n₀ Bs Bn W W')\/(e=.returned (.bool false)/\Jx (pre ++ [x]) W'))
  (W:World) (hBs:W.cell? ⟨Bs,0,none⟩=some (.slice (some ⟨b,off,none⟩) len cap)) (hBn:W.cell? ⟨Bn,0,none⟩=some (.int .i64 2)) (h0:J [] W) :
  CallsIn F n Tryz.prog 130 #[.func (.yield l) #[] #[],.pointer (some ⟨Bs,0,none⟩),.pointer (some ⟨Bn,0,none⟩)] W fun e W'=>(∃ v,e=.returned v) /\
   ((∃ ys:List (Ix len),ys.map (·.1)=List.range ((len + 1) / 2)/\J ys W')\/(∃ pre,Jx pre W')):=by
 refine callsIn_of_wp Tryz.func130 rfl h7 ?_ hro
 have hnt:Tryz.f130.ntmps=31:=rfl
 simp only [hnt,List.size_toArray,List.length_cons,List.length_nil,Nat.reduceAdd,Nat.reduceSub,Array.replicate_succ,Array.replicate_zero,List.push_toArray,List.append_toArray,List.nil_append,List.cons_append]
 gi_wp2
 gi_loopw [4] (fun i wr=>∃ k:Nat,2 * k<=len + 1/\i=.int .i64 (2 * k:Nat)/\(∃ ys:List (Ix len),ys.map (·.1)=List.range k/\J ys wr)/\pY n₀ Bs Bn W wr)
  (fun i _=>len + 2 - (intOf i).toNat)
 case atStart=>exact ⟨0,by omega,rfl,⟨[],rfl,h0⟩,pY.refl _ _ _ _⟩
 case round =>
  obtain ⟨k,hk,rfl,⟨ys,hys,hJs⟩,hnx,hs1,hs2⟩:=hrel
  have hBs':wr.cell? ⟨Bs,0,none⟩=some (.slice (some ⟨b,off,none⟩) len cap):=by unfold World.cell? at hBs ⊢; rw [hs1]; exact hBs
  have hBn':wr.cell? ⟨Bn,0,none⟩=some (.int .i64 2):=by unfold World.cell? at hBn ⊢; rw [hs2]; exact hBn
  by_cases hlt:2 * k < len
  ·obtain ⟨fn,tmps,assign,body,hy,hR⟩:=hY ys ⟨k,hlt⟩ wr.drew (hJ _ _ hJs) (by have:=congrArg List.length hys; simp at this; omega)
   have hBs3:∀ W3,pY n₀ Bs Bn wr.drew W3->W3.cell? ⟨Bs,0,none⟩=some (.slice (some ⟨b,off,none⟩) len cap):=fun W3 h=>by
    unfold World.cell? at hBs' ⊢; rw [h.2.1]; exact hBs'
   have hBn3:∀ W3,pY n₀ Bs Bn wr.drew W3->W3.cell? ⟨Bn,0,none⟩=some (.int .i64 2):=fun W3 h=>by
    unfold World.cell? at hBn' ⊢; rw [h.2.2]; exact hBn'
   have hKd:pY n₀ Bs Bn W wr.drew:=(pY.drew ⟨hnx,hs1,hs2⟩)
   gi_wp2
   gi_region
   all_goals gi_wp2
   all_goals
    first
     |(have e : (#[Value.slice (some { block := b, off := off + 2 * k }) ((2 * ↑k + (2 : Int)).toNat - 2 * k) ((2 * ↑k + (2 : Int)).toNat - 2 * k)] : Array Value) = enc b off len k := by
        unfold enc; rw [show (2 * ↑k + (2:Int)).toNat - 2 * k=min 2 (len - 2 * k) by omega]
       rw [e,hy])
     |(have e : (#[Value.slice (some { block := b, off := off + 2 * k }) ((2 * ↑k + min (2 : Int) ↑(len - 2 * k)).toNat - 2 * k) ((2 * ↑k + min (2 : Int) ↑(len - 2 * k)).toNat - 2 * k)] : Array Value) = enc b off len k := by
        unfold enc; rw [show (2 * ↑k + min (2:Int) ↑(len - 2 * k)).toNat - 2 * k=min 2 (len - 2 * k) by omega]
       rw [e,hy])
     |(have e : (#[Value.slice (some { block := b, off := off + 2 * k }) ((2 * ↑k + ↑(len - 2 * k) : Int).toNat - 2 * k) ((2 * ↑k + ↑(len - 2 * k) : Int).toNat - 2 * k)] : Array Value) = enc b off len k := by
        unfold enc; rw [show (2 * ↑k + ↑(len - 2 * k):Int).toNat - 2 * k=min 2 (len - 2 * k) by omega]
       rw [e,hy])
    gi_wp2
    refine hR.mono ?_
    rintro e W3 (⟨rfl,hJ3,hk3⟩|⟨rfl,hJx3⟩)
    ·have hb3:=hBn3 W3 hk3
     gi_wp2
     go_roundw
     case rel=>exact ⟨k + 1,by omega,by simp; omega,⟨ys ++ [⟨k,hlt⟩],by simp [hys,List.range_succ],hJ3⟩,hKd.trans hk3⟩
     case measure=>simp [intOf]; omega
    ·gi_wp2
     refine bodyPost_ret (results_none rfl _ _ _) rfl ?_
     exact ⟨⟨_,rfl⟩,.inr ⟨_,hJx3⟩⟩
  ·gi_wp2
   go_end0
   exact ⟨⟨_,rfl⟩,.inl ⟨ys,by rw [hys]; congr 1; omega,hJs⟩⟩
set_option maxRecDepth 100000 in
set_option maxHeartbeats 4000000 in
theorem aAO (F:Fence) (n:Nat) (h7:F.fn 130) (hro:F.round=none) (l Bs Bn:Nat) (a:Option Addr) (cap:Nat) (J:World->Prop) (W:World) (hBs:W.cell? ⟨Bs,0,none⟩=some (.slice a 0 cap)) (h0:J W) :
  CallsIn F n Tryz.prog 130 #[.func (.yield l) #[] #[],.pointer (some ⟨Bs,0,none⟩),.pointer (some ⟨Bn,0,none⟩)] W fun e W'=>(∃ v,e=.returned v)/\J W':=by
 refine callsIn_of_wp Tryz.func130 rfl h7 ?_ hro
 have hnt:Tryz.f130.ntmps=31:=rfl
 simp only [hnt,List.size_toArray,List.length_cons,List.length_nil,Nat.reduceAdd,Nat.reduceSub,Array.replicate_succ,Array.replicate_zero,List.push_toArray,List.append_toArray,List.nil_append,List.cons_append]
 gi_wp2
 gi_loopw [4] (fun i wr=>i=.int .i64 0/\wr=W) (fun _ _=>0)
 case atStart=>exact ⟨rfl,rfl⟩
 case round =>
  obtain ⟨rfl,rfl⟩:=hrel
  gi_wp2
  go_end0
  exact ⟨⟨_,rfl⟩,h0⟩
set_option maxRecDepth 100000 in
set_option maxHeartbeats 4000000 in
theorem aIs (F:Fence) (n:Nat) (h5:F.fn 111) (hro:F.round=none) (a:Option Addr) (len cap:Nat) (w:World) :
  CallsIn F n Tryz.prog 111 #[.slice a len cap,.int .i64 2] w fun e w'=>e=.returned (.func (.func 130) #[] #[.pointer (some ⟨w.heap.size,0,none⟩),.pointer (some ⟨w.heap.size + 1,0,none⟩)]) /\
   w'=(w.alloc (.cells #[.slice a len cap] 36)).alloc (.cells #[.int .i64 2] 3):=by
 refine callsIn_of_wp Tryz.func111 rfl h5 ?_ hro
 have hnt:Tryz.f111.ntmps=9:=rfl
 simp only [hnt,List.size_toArray,List.length_cons,List.length_nil,Nat.reduceAdd,Nat.reduceSub,Array.replicate_succ,Array.replicate_zero,List.push_toArray,List.append_toArray,List.nil_append,List.cons_append]
 gi_wp2
 go_ret
 exact ⟨by simp,rfl⟩
theorem aDq (F:Fence) (n:Nat) (h7:F.fn 130) (hro:F.round=none) (hn:1<=n) (Bs Bn n₀ b off len cap:Nat) (a:Option Addr) (hreach:len<=1048576) (w:World)
  (ha:len=0\/(a=some ⟨b,off,none⟩/\len<=cap/\b < n₀)) (hBs:Bs < w.heap.size) (hBn:Bn < w.heap.size) (hcs:w.cell? ⟨Bs,0,none⟩=some (.slice a len cap)) (hcn:w.cell? ⟨Bn,0,none⟩=some (.int .i64 2)) :
  SeqStopsK F n Tryz.prog 130 #[.pointer (some ⟨Bs,0,none⟩),.pointer (some ⟨Bn,0,none⟩)] (fun x:Ix len=>enc b off len x.1) (pY n₀ Bs Bn) (fun ys=>ys.map (·.1)=List.range ((len + 1) / 2)) (fun _=>True) ((len + 1) / 2) w:=fun l J Jx W hW hJ _ hY h0=>by
 have hcs':=(hW.cell (p:=⟨Bs,0,none⟩) hBs).trans hcs
 have hcn':=(hW.cell (p:=⟨Bn,0,none⟩) hBn).trans hcn
 rcases ha with rfl|⟨rfl,hcap,hb⟩
 ·exact (aAO F n h7 hro l Bs Bn a cap (J []) W hcs' h0).mono fun e W' ⟨he,hj⟩=>⟨he,.inl ⟨[],rfl,hj⟩⟩
 ·exact (aGB F n h7 hro hn l Bs Bn n₀ b off len cap hcap hreach hb J Jx (fun s W h=>aD8 hJ h) hY W hcs' hcn' h0).mono fun e W' ⟨he,hj⟩=>⟨he,hj.imp id fun ⟨pre,h⟩=>⟨pre,trivial,h⟩⟩
end Go.Proofs.ChkTryz
set_option maxRecDepth 100000
set_option maxHeartbeats 4000000
set_option linter.all false
namespace Go.Pe.Tryz
open Nat (reduceEqDiff reduceAdd reduceSub reduceLT)
open Go Go.Proofs.Tryz
theorem aGK (out pr:List Int) (g:Int) (hg:(∃ a b,pr=[a,b]/\gK a/\gK b/\g=qG a b)\/pr=[g]) (ho:out.length<=1000000) :
  ∃ b,(Go.Proofs.Tryz.f92).body.bind kL=some b/\∀ (c:Ctx),c.G=prog->c.nn=(8,(Go.Proofs.Tryz.f92).ntmps)->∀ C a w,Rel c ⟨[(3,.ptr 0 0 []),(4,.d (.sl false 1 (dl iD pr)))],[.box (.sl true 1 (dl iD out))]⟩ C a w->∀ r n,b.wpIn (Fence.wide.inRound r) n prog.P (fun e a' w'=>∃ s' C',(e=.normal/\look s'.e 3=.ptr 0 0 []/\∃ x,s'.o=.box (.sl true 1 (dl iD (out ++ [g]))) :: x)/\Rel c s' C' a' w') a w:=by
 rcases hg with ⟨a,b,rfl,ha,hb,rfl⟩|rfl
 ·have hP:=aD0 a b ha hb
  have i0:([a,b]:List Int)[(0:Int).toNat]?=some a:=rfl
  have i1:([a,b]:List Int)[(1:Int).toNat]?=some b:=rfl
  have d2:decide (((2:Nat):Int)=2)=true:=rfl
  refine aFD (ps:=[[0,1,0]]) aOi aO8 (by rfl) (Q:=fun e s'=>e=.normal/\look s'.e 3=.ptr 0 0 []/\∃ x,s'.o=.box (.sl true 1 (dl iD (out ++ [qG a b]))) :: x) ?_
  unfold aMK
  simp only [dP,eR]
  repeat' (first|(simp only [a7,d2,↓wA,↓wC,wB,aY,aW,reduceEqDiff,reduceAdd,reduceSub,reduceIte,reduceCtorEq,Nat.reduceBEq,reduceLT])|((first|apply aO|apply aQ|apply aK)<;>intro h<;>try simp only [h]))
  refine dQ _ (eA 0 none [] (es:=1) (xs:=dl iD out) rfl rfl) fun v=>?_
  simp only [cX,↓wA,↓wC,wB,aY,aW,reduceEqDiff,reduceAdd,reduceSub,reduceIte,reduceCtorEq,Nat.reduceBEq,reduceLT]
  repeat' (first|(simp only [a7,bW,aV,i0,i1,Option.map_some,e9,iD,↓wA,↓wC,wB,aY,aW,reduceEqDiff,reduceAdd,reduceSub,reduceIte,reduceCtorEq,Nat.reduceBEq,reduceLT])|(refine aZ (hP) rfl rfl ?_)|(refine a6 (hP) rfl rfl ?_)|(refine cT ?_)|(refine a6 hP rfl rfl ?_)|(with_reducible refine bK ?_ ?_; focus omega)|((first|apply aO|apply aQ|apply aK)<;>intro h<;>try simp only [h]))
  refine bK (by simp) (bK (by omega) ?_)
  rw [show (dl iD out).app (.cons (.int .i64 (qG a b)) .nil)=dl iD (out ++ [qG a b]) from iG (f:=iD) out _]
  exact ⟨_,rfl⟩
 ·have i0:([g]:List Int)[(0:Int).toNat]?=some g:=rfl
  have d2:decide (((1:Nat):Int)=2)=false:=rfl
  refine aFD (ps:=[[0,1,1]]) aOi aO8 (by rfl) (Q:=fun e s'=>e=.normal/\look s'.e 3=.ptr 0 0 []/\∃ x,s'.o=.box (.sl true 1 (dl iD (out ++ [g]))) :: x) ?_
  unfold aMK
  simp only [dP,eR]
  repeat' (first|(simp only [a7,d2,↓wA,↓wC,wB,aY,aW,reduceEqDiff,reduceAdd,reduceSub,reduceIte,reduceCtorEq,Nat.reduceBEq,reduceLT])|((first|apply aO|apply aQ|apply aK)<;>intro h<;>try simp only [h]))
  refine dQ _ (eA 0 none [] (es:=1) (xs:=dl iD out) rfl rfl) fun v=>?_
  simp only [cX,↓wA,↓wC,wB,aY,aW,reduceEqDiff,reduceAdd,reduceSub,reduceIte,reduceCtorEq,Nat.reduceBEq,reduceLT]
  repeat' (first|(simp only [a7,bW,aV,i0,Option.map_some,e9,iD,↓wA,↓wC,wB,aY,aW,reduceEqDiff,reduceAdd,reduceSub,reduceIte,reduceCtorEq,Nat.reduceBEq,reduceLT])|(refine cT ?_)|(with_reducible refine bK ?_ ?_; focus omega)|((first|apply aO|apply aQ|apply aK)<;>intro h<;>try simp only [h]))
  refine bK (by simp) (bK (by omega) ?_)
  rw [show (dl iD out).app (.cons (.int .i64 g) .nil)=dl iD (out ++ [g]) from iG (f:=iD) out _]
  exact ⟨_,rfl⟩
end Go.Pe.Tryz
set_option maxRecDepth 100000
set_option maxHeartbeats 4000000
set_option linter.all false
namespace Go.Pe.Tryz
open Nat (reduceEqDiff reduceAdd reduceSub reduceLT)
open Go Go.RowKit Go.Shelf Go.Proofs.ChkTryz
attribute [local go_sem] Oper.semAt_some
theorem yP {w:World} {M:Nat->Prop}:∀ v:List Int,(dl iD v).rep w M (v.map (Value.int .i64)) []
 | []=>⟨rfl,rfl⟩
 | n :: v=>⟨[.int .i64 n],_,[],[],rfl,rfl,⟨rfl,rfl⟩,yP v⟩
theorem pV {w:World} {M:Nat->Prop}:∀ (v:List Int) (cs:List Value) (fp:List Nat),(dl iD v).rep w M cs fp->cs=v.map (Value.int .i64)/\fp=[]
 | [],cs,fp,h=>h
 | n :: v,cs,fp,h=>by
  obtain ⟨c1,c2,f1,f2,rfl,rfl,⟨rfl,rfl⟩,h2⟩:=h
  obtain ⟨rfl,rfl⟩:=pV v c2 f2 h2
  exact ⟨rfl,rfl⟩
theorem zQ:∀ v:List Int,(dl iD v).isL 1
 | []=>trivial
 | n :: v=>⟨rfl,zQ v⟩
def SlI (W:World) (u:Value) (out:List Int) (fp:List Nat):Prop :=
 (∃ a,u=.slice a 0 0/\out=[]/\fp=[])\/∃ g c,u=.slice (some ⟨g,0,none⟩) out.length c/\out.length<=c/\fU W g c (out.map (Value.int .i64))/\fp=[g]
theorem SlI.rep {W:World} {M:Nat->Prop} {u:Value} {out:List Int} {fp:List Nat} (h:SlI W u out fp):(D.sl true 1 (dl iD out)).rep W M [u] fp:=by
 rcases h with ⟨a,rfl,rfl,rfl⟩|⟨g,c,rfl,hc,hr,rfl⟩
 ·exact ⟨trivial,a,0,[],[],rfl,Nat.le_refl _,⟨rfl,rfl⟩,by simp⟩
 ·refine ⟨zQ out,_,c,_,[],by rw [a7],by rw [a7]; exact hc,yP out,?_⟩
  simp only [if_true]
  exact .inr ⟨g,rfl,⟨by rw [Nat.mul_one]; exact hr,fun h=>absurd rfl h⟩,rfl⟩
theorem SlI.of {W:World} {M:Nat->Prop} {cs:List Value} {out:List Int} {fp:List Nat} (h:(D.sl true 1 (dl iD out)).rep W M cs fp):∃ u,cs=[u]/\SlI W u out fp:=by
 obtain ⟨_,a,c,ds,fps,rfl,hc,h3,h4⟩:=h
 obtain ⟨rfl,rfl⟩:=pV _ _ _ h3
 rw [a7] at hc ⊢
 refine ⟨_,rfl,?_⟩
 simp only [if_true] at h4
 rcases h4 with ⟨rfl,_,rfl⟩|⟨g,rfl,hr,rfl⟩
 ·have e:out=[]:=List.length_eq_zero_iff.1 (by omega)
  subst e
  exact .inl ⟨a,rfl,rfl,rfl⟩
 ·rw [Nat.mul_one] at hr
  have hr:=hr.1
  exact .inr ⟨g,c,rfl,hc,hr,rfl⟩
theorem zW {W:World} {g n:Nat} {ds:List Value} (h:fU W g n ds):∃ o:Obj,W.heap[g]?=some o/\o.isCells=true:=by
 obtain ⟨cur,E,⟨fz,h1,_⟩,_⟩:=h
 exact ⟨_,h1,rfl⟩
theorem SlI.row {W:World} {u:Value} {out:List Int} {fp:List Nat} (h:SlI W u out fp):∀ b∈fp,∃ o:Obj,W.heap[b]?=some o/\o.isCells=true:=by
 rcases h with ⟨a,rfl,rfl,rfl⟩|⟨g,c,rfl,hc,hr,rfl⟩
 ·intro b hb; cases hb
 ·intro b hb; rw [List.mem_singleton.1 hb]; exact zW hr
theorem SlI.keep {W W':World} {u:Value} {out:List Int} {fp:List Nat} (h:SlI W u out fp) (hk:∀ b∈fp,W'.heap[b]?=W.heap[b]?):SlI W' u out fp:=by
 rcases h with ⟨a,rfl,rfl,rfl⟩|⟨g,c,rfl,hc,hr,rfl⟩
 ·exact .inl ⟨a,rfl,rfl,rfl⟩
 ·exact .inr ⟨g,c,rfl,hc,hr.frame (hk g (by simp)),rfl⟩
def xJ (n0 B:Nat) (W:World) (out:List Int):Prop:=∃ u fp,fU W B 1 [u]/\SlI W u out fp/\B ∉ fp/\∀ b∈fp,n0<=b
theorem xJ.kept {n0 B:Nat} {W W':World} {out:List Int} {row:Option Nat} (h:xJ n0 B W out) (hg:W.grownBy W' row) (hr:∀ r,row=some r->∃ o:Obj,W.heap[r]?=some o/\o.isCells=false):xJ n0 B W' out:=by
 obtain ⟨u,fp,h1,h2,h3,h4⟩:=h
 have key:∀ b:Nat,(∃ o:Obj,W.heap[b]?=some o/\o.isCells=true)->W'.heap[b]?=W.heap[b]?:=by
  rintro b ⟨o,hb,ho⟩
  refine hg.block b (Array.getElem?_eq_some_iff.1 hb).1 fun e=>?_
  obtain ⟨o',hb',ho'⟩:=hr b e.symm
  rw [hb] at hb'
  injection hb' with hb'
  rw [<- hb',ho] at ho'
  cases ho'
 exact ⟨u,fp,h1.frame (key B (zW h1)),h2.keep fun b hb=>key b (h2.row b hb),h3,h4⟩
theorem xJ.own (n0 B:Nat) {β:Type} (f:β->List Int):Own (fun s W=>xJ n0 B W (f s)):=fun s X Y row h hg hr=>xJ.kept h hg hr
theorem aBR (oc:OC):dN [oc]=oc.fp:=by simp [dN]
theorem aJp (w W:World) (M:Nat->Prop) (hgl:GOK prog w M) (n0 B b off:Nat) (out pr:List Int) (g:Int) (tm:Array Value) (htm:tm.size=(Go.Proofs.Tryz.f92).ntmps)
  (h3:tm.getD 3 Go.undef=.pointer (some ⟨B,0,none⟩)) (h4:tm.getD 4 Go.undef=.slice (some ⟨b,off,none⟩) pr.length pr.length) (hprl:0 < pr.length)
  (hc:∀ j u,pr[j]?=some u->W.cell? ⟨b,off + j,none⟩=some (.int .i64 u)) (hbw:b < w.heap.size) (hBw:w.heap.size<=B) (hn0:w.heap.size<=n0) (hn1:n0<=W.heap.size) (hB:xJ n0 B W out) (hbel:Below w.heap.size w W)
  (hg:(∃ x y,pr=[x,y]/\gK x/\gK y/\g=qG x y)\/pr=[g]) (ho:out.length<=1000000) (r n:Nat) :
  ∃ bd,(Go.Proofs.Tryz.f92).body.bind kL=some bd/\bd.wpIn (Fence.wide.inRound r) n Go.Proofs.Tryz.prog (fun e a' W'=>e=.normal/\xJ n0 B W' (out ++ [g])/\W'.os=W.os/\W'.tape=W.tape/\W'.output=W.output/\W.heap.size<=W'.heap.size /\
   (∀ k,k < W.heap.size->k < n0->k≠B->W'.heap[k]?=W.heap[k]?)/\(∀ (k:Nat) (o:Obj),W.heap[k]?=some o->o.isCells=false->W'.heap[k]?=some o)) { tmps:=tm,defers:=[] } W:=by
 obtain ⟨bd,hbd,H⟩:=aGK out pr g hg ho
 refine ⟨bd,hbd,?_⟩
 obtain ⟨u,fp,q1,q2,q3,q4⟩:=hB
 have hfpl:∀ k∈B :: fp,k < W.heap.size:=fun k hk=>by
  rcases List.mem_cons.1 hk with rfl|hk
  ·exact q1.lt
  ·obtain ⟨o,h,_⟩:=q2.row k hk
   exact (Array.getElem?_eq_some_iff.1 h).1
 have hnd:(B :: fp).Nodup:=by
  rcases q2 with ⟨_,_,_,rfl⟩|⟨_,_,_,_,_,rfl⟩
  ·simp
  ·exact List.nodup_cons.2 ⟨q3,by simp⟩
 have hge:∀ k∈B :: fp,w.heap.size<=k:=fun k hk=>by
  rcases List.mem_cons.1 hk with rfl|hk
  ·exact hBw
  ·have:=q4 k hk; omega
 let c:Ctx:={ G:=prog,n:=(Go.Proofs.Tryz.f92).ntmps,w0:=W,M0:=fun _=>False,g0:=B :: fp,lo:=8,fx:=fun t=>tm.getD t Go.undef }
 let oc:OC:={ v:=Go.undef,blk:=B,fp:=B :: fp }
 have hMs:∀ k,Ms c [oc] k↔k∈B :: fp:=fun k=>by simp [Ms,dN,c,oc]
 have hrel:Rel c ⟨[(3,.ptr 0 0 []),(4,.d (.sl false 1 (dl iD pr)))],[.box (.sl true 1 (dl iD out))]⟩ [oc] { tmps:=tm,defers:=[] } W:=by
  refine ⟨htm,rfl,fun t=>?_,?_,fun t _=>rfl⟩
  ·simp only [look]
   by_cases e3:3=t
   ·subst e3
    simp only [if_true]
    exact ⟨oc,rfl,h3⟩
   ·simp only [e3,if_false]
    by_cases e4:4=t
    ·subst e4
     simp only [if_true]
     refine ⟨[.slice (some ⟨b,off,none⟩) pr.length pr.length],⟨zQ pr,_,pr.length,_,[],by rw [a7],by rw [a7]; exact Nat.le_refl _,yP pr,?_⟩,h4⟩
     simp only [Bool.false_eq_true,if_false]
     refine ⟨trivial,trivial,.inr ⟨_,rfl,.inr ⟨?_,?_,?_⟩⟩⟩
     ·exact Nat.lt_of_lt_of_le hbw hbel.size
     ·intro h
      have:=hge b ((hMs b).1 h)
      omega
     ·intro j x hx
      rw [Addr.add_lit]
      rw [List.getElem?_map] at hx
      obtain ⟨y,hy,rfl⟩:=Option.map_eq_some_iff.1 hx
      exact hc j y hy
    ·simp only [e4,if_false]
     trivial
  ·refine ⟨rfl,?_,?_,?_,?_,?_,?_,rfl,rfl,rfl,Nat.le_refl _,fun _ _ _=>rfl,fun k h=>h.elim,?_⟩
   ·intro k ob oc' h1 h2
    cases k with
    | succ k=>simp at h1
    | zero =>
     simp only [List.getElem?_cons_zero,Option.some.injEq] at h1 h2
     subst h1 h2
     exact ⟨[u],fp,q1,q2.rep,rfl⟩
   ·intro q k v h
    cases q<;>simp at h
   ·rw [aBR]; exact hnd
   ·rw [aBR]; exact hfpl
   ·intro k _ h; exact h
   ·intro k hk; rw [aBR] at hk; exact .inr hk
   ·obtain ⟨w1,f1,f2,f3⟩:=hgl
    refine ⟨w1,f1,Nat.le_trans f2 hbel.size,fun k hk=>⟨fun h=>?_,?_⟩⟩
    ·have:=hge k ((hMs k).1 h); omega
    ·rw [hbel.block k (by omega)]; exact (f3 k hk).2
 refine wpIn_mono (H c rfl rfl [oc] _ W hrel r n) ?_
 rintro e a' W' ⟨s',C',⟨rfl,hl3,x,hx⟩,hr'⟩
 refine ⟨rfl,?_,hr'.wd.os,hr'.wd.tape,hr'.wd.output,hr'.wd.size,?_,?_⟩
 ·have hv:=hr'.env 3
  rw [hl3] at hv
  obtain ⟨oc',g1,g2⟩:=hv
  have hfx:=hr'.fix 3 (show 3 < 8 by decide)
  rw [hfx] at g2
  have e:=h3.symm.trans g2
  simp only [Value.pointer.injEq,Option.some.injEq,Addr.mk.injEq,and_true] at e
  obtain ⟨cs,fps,k1,k2,k3⟩:=hr'.wd.obs 0 _ oc' (by rw [hx]; rfl) g1
  obtain ⟨u',rfl,k4⟩:=SlI.of k2
  rw [<- e] at k1 k3
  have hmem:∀ k∈fps,k∈dN C':=fun k hk=>bP.2 ⟨0,oc',g1,by rw [k3]; exact List.mem_cons_of_mem _ hk⟩
  have hnd':=(cD.1 hr'.wd.nodup).1 0 oc' g1
  rw [k3] at hnd'
  refine ⟨u',fps,k1,k4,(List.nodup_cons.1 hnd').1,fun k hk=>?_⟩
  rcases hr'.wd.mine k (hmem k hk) with h|h
  ·exact Nat.le_trans hn1 h
  ·rcases List.mem_cons.1 h with h|h
   ·rw [h] at hk; exact absurd hk (List.nodup_cons.1 hnd').1
   ·exact q4 k h
 ·intro k hk hkn hkB
  refine hr'.wd.kept k hk fun h=>?_
  rcases List.mem_cons.1 h with h|h
  ·exact hkB h
  ·have:=q4 k h; omega
 ·intro k o hk ho
  rw [<- hk]
  refine hr'.wd.kept k (Array.getElem?_eq_some_iff.1 hk).1 fun h=>?_
  have:∃ o:Obj,W.heap[k]?=some o/\o.isCells=true:=by
   rcases List.mem_cons.1 h with h|h
   ·rw [h]; exact zW q1
   ·exact q2.row k h
  obtain ⟨o',h1,h2⟩:=this
  rw [hk] at h1
  injection h1 with h1
  rw [h1,h2] at ho
  cases ho
def gR (v:List Int) (k:Nat):Int:=match v[2 * k]?,v[2 * k + 1]? with
 | some a,some b=>qG a b
 | some a,none=>a
 | _,_=>0
theorem aKT (v:List Int) (a b:Int) (k:Nat):gR (a :: b :: v) (k + 1)=gR v k:=by
 unfold gR
 rw [show 2 * (k + 1)=2 * k + 1 + 1 by omega,List.getElem?_cons_succ,List.getElem?_cons_succ,List.getElem?_cons_succ,List.getElem?_cons_succ]
theorem aBr:∀ v:List Int,(List.range ((v.length + 1) / 2)).map (gR v)=eQ v
 | []=>rfl
 | [a]=>by simp [gR,eQ]
 | a :: b :: v=>by
  have ih:=aBr v
  have e:((a :: b :: v).length + 1) / 2=(v.length + 1) / 2 + 1:=by simp only [List.length_cons]; omega
  rw [e,List.range_succ_eq_map,List.map_cons,List.map_map]
  have e2:(gR (a :: b :: v) ∘ Nat.succ)=gR v:=by
   funext k
   exact aKT v a b k
  rw [e2,ih]
  rfl
theorem aPp (v:List Int) (hv:∀ n∈v,gK n) (k:Nat) (hk:2 * k < v.length):∃ pr:List Int,pr.length=min 2 (v.length - 2 * k)/\(∀ j u,pr[j]?=some u->v[2 * k + j]?=some u)/\((∃ x y,pr=[x,y]/\gK x/\gK y/\gR v k=qG x y)\/pr=[gR v k]):=by
 obtain ⟨a,ha⟩:=cK hk
 by_cases h2:2 * k + 1 < v.length
 ·obtain ⟨b,hb⟩:=cK h2
  refine ⟨[a,b],by simp; omega,fun j u hj=>?_,.inl ⟨a,b,rfl,hv a (List.mem_of_getElem? ha),hv b (List.mem_of_getElem? hb),by unfold gR; rw [ha,hb]⟩⟩
  match j,hj with
  | 0,hj=>simp at hj; rw [<- hj]; exact ha
  | 1,hj=>simp at hj; rw [<- hj]; exact hb
  | j + 2,hj=>simp at hj
 ·have hb:v[2 * k + 1]?=none:=List.getElem?_eq_none (by omega)
  have hg:gR v k=a:=by unfold gR; rw [ha,hb]
  refine ⟨[a],by simp; omega,fun j u hj=>?_,.inr (by rw [hg])⟩
  match j,hj with
  | 0,hj=>simp at hj; rw [<- hj]; exact ha
  | j + 1,hj=>simp at hj
def qZ {len:Nat} (v:List Int) (pre:List (Ix len)):List Int:=pre.map fun x=>gR v x.1
theorem aF7 {W:World} {B:Nat} {t:TypeId} {u:Value} (h:Boxed W B t u):fU W B 1 [u]:=⟨#[u],t,⟨(0,0),h,.inl (Nat.le_refl _)⟩,rfl,rfl⟩
theorem aIW {W:World} {B:Nat} {u:Value} (h:fU W B 1 [u]):W.cell? ⟨B,0,none⟩=some u:=by
 obtain ⟨cur,E,h1,h2,h3⟩:=h
 rw [h1.cell 0]
 have:cur.toList[0]?=some u:=by
  have e:=congrArg (fun l:List Value=>l[0]?) h3
  simp only [List.length_singleton,List.getElem?_cons_zero,List.getElem?_take] at e
  simpa using e
 simpa using this
set_option maxRecDepth 100000 in
set_option maxHeartbeats 4000000 in
theorem aGm (v:List Int) (hv:∀ n∈v,gK n) (hl:v.length<=1000) (w:World) (M:Nat->Prop) (hgl:GOK prog w M) (a:Option Addr) (cap b off:Nat)
  (ha:v.length=0\/(a=some ⟨b,off,none⟩/\v.length<=cap/\b < w.heap.size/\∀ j u,v[j]?=some u->w.cell? ⟨b,off + j,none⟩=some (.int .i64 u))) :
  Calls Go.Proofs.Tryz.prog 92 #[.slice a v.length cap] w fun e W'=>∃ u fp,e=.returned u/\SlI W' u (eQ v) fp/\(∀ k∈fp,w.heap.size<=k)/\kP w W':=by
 refine (callsIn_wide (n:=4)).1 ?_
 refine callsIn_of_wp_marks Go.Proofs.Tryz.func92 rfl trivial ?_ rfl
 have hnt:Go.Proofs.Tryz.f92.ntmps=28:=rfl
 simp only [hnt,List.size_toArray,List.length_cons,List.length_nil,Nat.reduceAdd,Nat.reduceSub,Array.replicate_succ,Array.replicate_zero,List.push_toArray,List.append_toArray,List.nil_append,List.cons_append]
 gi_wp2_with (refine ⟨trivial,?_⟩; gi_at_call 111; refine (aIs Fence.wide (4 - 1) trivial rfl _ _ _ _).mono ?_; rintro e w' ⟨rfl,rfl⟩)
 obtain ⟨W0,hW0⟩:∃ W0,W0=((w.alloc (.cells #[.slice none 0 0] 36)).alloc (.cells #[.slice a v.length cap] 36)).alloc (.cells #[.int .i64 2] 3):=⟨_,rfl⟩
 have hsz:W0.heap.size=w.heap.size + 3:=by rw [hW0]; simp
 have hbel0:Below w.heap.size w W0:=by
  rw [hW0]
  exact (((Below.refl _ w).alloc (Nat.le_refl _) _).alloc (by simp) _).alloc (by simp; omega) _
 have bO:=Boxed.new w 36 (.slice none 0 0)
 have bS:=Boxed.new (w.alloc (.cells #[.slice none 0 0] 36)) 36 (.slice a v.length cap)
 have bN:=Boxed.new ((w.alloc (.cells #[.slice none 0 0] 36)).alloc (.cells #[.slice a v.length cap] 36)) 3 (.int .i64 2)
 rw [World.size_alloc] at bS
 rw [World.size_alloc,World.size_alloc] at bN
 have cS:W0.cell? ⟨w.heap.size + 1,0,none⟩=some (.slice a v.length cap):=by rw [hW0]; exact (bS.alloc _).cell
 have cN:W0.cell? ⟨w.heap.size + 1 + 1,0,none⟩=some (.int .i64 2):=by rw [hW0]; exact bN.cell
 have bI:xJ (w.heap.size + 3) w.heap.size W0 []:=by
  rw [hW0]
  exact ⟨.slice none 0 0,[],aF7 ((bO.alloc _).alloc _),.inl ⟨none,rfl,rfl,rfl⟩,by simp,by simp⟩
 rw [<- hW0]
 refine wpIn_rangeFunc_ownF rfl (by decide) (gf:=130) (lb:=#[.pointer (some ⟨w.heap.size + 1,0,none⟩),.pointer (some ⟨w.heap.size + 1 + 1,0,none⟩)]) rfl trivial (Go.Proofs.enters_of Go.Proofs.Tryz.func130 (by kernel_rfl) rfl)
  (aDq Fence.wide (4 - 1) trivial rfl (by decide) (w.heap.size + 1) (w.heap.size + 1 + 1) w.heap.size b off v.length cap a (by omega) W0 (ha.imp id fun h=>⟨h.1,h.2.1,h.2.2.1⟩) (by omega) (by omega) cS cN)
  pY.trans ?kb (Below.refl _ _) (fun _=>rfl)
  (fun pre W=>xJ (w.heap.size + 3) w.heap.size W (qZ v pre)/\Below w.heap.size w W/\w.heap.size + 3<=W.heap.size)
  (fun _ _ _=>False)
  (OwnFrom.and ((xJ.own (w.heap.size + 3) w.heap.size (qZ v)).from _) (OwnFrom.and (ownFrom_below (Nat.le_refl _) (by omega)) (fun s A B row hs hg hr=>Nat.le_trans hs hg.size)))
  (fun _ _ _ _ _ hs _ _=>hs)
  ⟨bI,hbel0,by omega⟩
  (fun x=>{ tmps:=#[.slice a v.length cap,undef,.slice none 0 0,.pointer (some ⟨w.heap.size,0,none⟩),.slice (some ⟨b,off + 2 * x.1,none⟩) (min 2 (v.length - 2 * x.1)) (min 2 (v.length - 2 * x.1)),.slice a v.length cap,.func (.func 130) #[] #[.pointer (some ⟨w.heap.size + 1,0,none⟩),.pointer (some ⟨w.heap.size + 1 + 1,0,none⟩)],.slice (some ⟨b,off + 2 * x.1,none⟩) (min 2 (v.length - 2 * x.1)) (min 2 (v.length - 2 * x.1)),undef,undef,undef,undef,undef,undef,undef,undef,undef,undef,undef,undef,undef,undef,undef,undef,undef,undef,undef,undef],defers:=[] }) ?assign ?body ?done ?stop
 case kb =>
  intro W l o o' hl h1 h2 h3
  refine ⟨belowK_b (w:=w) (Nat.le_refl _) W l o o' (by omega) h1 h2 h3,?_,?_⟩
  ·exact (World.putObj_heap_other (by omega))
  ·exact (World.putObj_heap_other (by omega))
 case assign =>
  intro l x W K hK
  simp only [enc]
  gi_wp2
  exact hK
 case body =>
  rintro l pre x W ⟨hB,hbel,hs3⟩ hlen
  obtain ⟨pr,hpl,hpg,hg⟩:=aPp v hv x.1 x.2
  rcases ha with h0|⟨rfl,hcap,hbw,hcell⟩
  ·have:=x.2; omega
  obtain ⟨bd,hbd,H⟩:=aJp w W M hgl (w.heap.size + 3) w.heap.size b (off + 2 * x.1) (qZ v pre) pr (gR v x.1)
   #[.slice (some ⟨b,off,none⟩) v.length cap,undef,.slice none 0 0,.pointer (some ⟨w.heap.size,0,none⟩),.slice (some ⟨b,off + 2 * x.1,none⟩) (min 2 (v.length - 2 * x.1)) (min 2 (v.length - 2 * x.1)),.slice (some ⟨b,off,none⟩) v.length cap,.func (.func 130) #[] #[.pointer (some ⟨w.heap.size + 1,0,none⟩),.pointer (some ⟨w.heap.size + 1 + 1,0,none⟩)],.slice (some ⟨b,off + 2 * x.1,none⟩) (min 2 (v.length - 2 * x.1)) (min 2 (v.length - 2 * x.1)),undef,undef,undef,undef,undef,undef,undef,undef,undef,undef,undef,undef,undef,undef,undef,undef,undef,undef,undef,undef]
   rfl rfl (by rw [hpl]; rfl) (by rw [hpl]; have:=x.2; omega)
   (fun j u hj=>by
    have h1:=hcell _ _ (hpg j u hj)
    rw [<- Nat.add_assoc] at h1
    exact (hbel.cell (p:=⟨b,off + 2 * x.1 + j,none⟩) hbw).trans h1)
   hbw (Nat.le_refl _) (by omega) hs3 hB hbel hg (by
    have:(qZ v pre).length=pre.length:=by simp [qZ]
    omega) l (4 - 1 - 1)
  have key:∀ bd',(Go.Proofs.Tryz.f92).body.bind kL=some bd'->bd'.wpIn (Fence.wide.inRound l) (4 - 1 - 1) Go.Proofs.Tryz.prog _ _ _:=fun bd' h=>by
   rw [hbd] at h
   injection h with h
   subst h
   exact wpIn_mono H (Q':=ownPostK (pY w.heap.size (w.heap.size + 1) (w.heap.size + 1 + 1)) (fun pre W=>xJ (w.heap.size + 3) w.heap.size W (qZ v pre)/\Below w.heap.size w W/\w.heap.size + 3<=W.heap.size) (fun _ _ _=>False) (pre ++ [x]) W) (by
    rintro e a' W' ⟨rfl,h1,h2,h3,h4,h5,h6,h7⟩
    have hbW:Below w.heap.size W W':=⟨h2,h3,h4,h5,fun k hk=>h6 k (by omega) (by omega) (by omega)⟩
    refine ⟨?_,⟨hbW,h6 _ (by omega) (by omega) (by omega),h6 _ (by omega) (by omega) (by omega)⟩,?_,hbel.trans hbW,by omega⟩
    ·exact ⟨h5,h7⟩
    ·have e:qZ v (pre ++ [x])=qZ v pre ++ [gR v x.1]:=by simp [qZ]
     rw [e]; exact h1)
  exact key _ rfl
 case done =>
  rintro D ys W hD hS ⟨⟨u,fp,q1,q2,q3,q4⟩,hbel,_⟩ hK
  have hcB:=aIW q1
  have eO:qZ v ys=eQ v:=by
   rw [<- aBr]
   unfold qZ
   have:ys.map (fun x=>gR v x.1)=(ys.map (·.1)).map (gR v):=by rw [List.map_map]; rfl
   rw [this,hS]
  rw [eO] at q2
  gi_wp2
  refine ⟨by simp,.inl ⟨_,_,rfl,run_takeDeferred hK,?_⟩⟩
  refine ⟨_,results_tmp rfl _ _ _,u,fp,rfl,?_,fun k hk=>by have:=q4 k hk; omega,?_⟩
  ·refine q2.keep fun k hk=>?_
   obtain ⟨o,h1,h2⟩:=q2.row k hk
   refine World.putObj_heap_other fun e=>?_
   subst e
   rw [hK] at h1
   injection h1 with h1
   rw [<- h1] at h2
   cases h2
  ·exact hbel.trans (belowK_b (w:=w) (Nat.le_refl _) W D _ _ (by omega) hK rfl rfl)
 case stop =>
  rintro D c pre W _ _ h _
  exact h.elim
theorem aDZ:rU:=by
 intro v hl hv M vs w hM hG hr
 obtain ⟨cs,us,f1,f2,rfl,e,h1,rfl,rfl⟩:=hr
 obtain ⟨rfl,_⟩:=List.append_eq_nil_iff.1 e.symm
 obtain ⟨_,a,cap,ds,fps,rfl,hc,h3,h4⟩:=h1
 obtain ⟨rfl,_⟩:=pV _ _ _ h3
 simp only [Bool.false_eq_true,if_false] at h4
 rw [a7] at hc h4 ⊢
 have hcall:∀ (b off:Nat),(v.length=0\/(a=some ⟨b,off,none⟩/\v.length<=cap/\b < w.heap.size/\∀ j u,v[j]?=some u->w.cell? ⟨b,off + j,none⟩=some (.int .i64 u)))->Calls Go.Proofs.Tryz.prog 92 #[.slice a v.length cap] w fun e w'=>∃ rs us fp,e=.returned (pS us)/\rs=[.sl true 1 (dl iD (eQ v))]/\dI w' (fun b=>M b\/b∈fp) rs us fp/\fp.Nodup/\(∀ b∈fp,w.heap.size<=b)/\kP w w':=by
  intro b off h
  refine (aGm v hv hl w M hG a cap b off h).mono ?_
  rintro e w' ⟨u,fp,rfl,h1,h2,h3⟩
  refine ⟨_,[u],fp,rfl,rfl,⟨[u],[],fp,[],rfl,by simp,h1.rep,rfl,rfl⟩,?_,h2,h3⟩
  rcases h1 with ⟨_,_,_,rfl⟩|⟨_,_,_,_,_,rfl⟩<;>simp
 rcases h4.2.2 with h0|⟨ad,rfl,hH⟩
 ·exact hcall 0 0 (.inl h0)
 ·rcases hH with h0|⟨hb,_,hcell⟩
  ·refine hcall 0 0 (.inl ?_)
   simpa using congrArg List.length h0
  ·obtain ⟨b,off,sp⟩:=ad
   cases sp with
   | none =>
    refine hcall b off (.inr ⟨rfl,hc,hb,fun j u hj=>?_⟩)
    have:=hcell j (.int .i64 u) (by rw [List.getElem?_map,hj]; rfl)
    rwa [Addr.add_lit] at this
   | some k =>
    by_cases h0:v.length=0
    ·exact hcall 0 0 (.inl h0)
    ·exfalso
     obtain ⟨u,hu⟩:=cK (show 0 < v.length by omega)
     have:=hcell 0 (.int .i64 u) (by rw [List.getElem?_map,hu]; rfl)
     simp [Addr.add,World.cell?] at this
     split at this<;>cases this
end Go.Pe.Tryz
set_option maxRecDepth 100000
set_option maxHeartbeats 4000000
set_option linter.all false
namespace Go.Pe.Tryz
open Nat (reduceEqDiff reduceAdd reduceSub reduceLT)
open Go.Proofs.Tryz
theorem xR {x:Off}:eV [4] x.s=4:=rfl
theorem xW {x:Off}:iS [4] x.s=some (.sl false 1 (dl D.str x.led)):=rfl
def aAT (o:Off):List D:=if cM o=true/\d5 o.led=true then [.int .i64 (pE (o.led.map jO)),.bool true] else [.int .i64 0,.bool false]
theorem aDT (hRd:rU) (o:Off) (ho:o.ok0):Fn prog 30 [o.s] (fun rs=>rs=aAT o):=by
 have hV:=jF o ho
 have hR:=aHc hRd o.led ho.2.1
 unfold aAT
 cases hv:cM o with
 | false =>
  rw [hv] at hV
  refine bV (fn:=f30) (by exact func30) c30 r30 (n:=12) (by rfl) (rv:=[.tmp 2,.tmp 3]) (by rfl) (by simp) ?_
  unfold m30
  try simp only [wQ]
  repeat' (first|(simp only [Off.s_noOwn,Off.s_isV,↓b9,aV,↓wA,↓wC,wB,aY,aW,reduceEqDiff,reduceAdd,reduceSub,reduceIte,reduceCtorEq,Nat.reduceBEq,reduceLT])|(refine aZ hV (by simp [cA,cW,Off.s_unown]) rfl ?_)|((first|apply aO|apply aQ|apply aK)<;>intro h<;>try simp only [h]))
  all_goals simp
 | true =>
  rw [hv] at hV
  cases hl:d5 o.led with
  | true =>
   rw [hl,if_pos rfl] at hR
   refine bV (fn:=f30) (by exact func30) c30 r30 (n:=12) (by rfl) (rv:=[.tmp 2,.tmp 3]) (by rfl) (by simp) ?_
   unfold m30
   try simp only [wQ]
   repeat' (first|(simp only [Off.s_noOwn,Off.s_isV,↓b9,aV,xR,xW,bE,↓wA,↓wC,wB,aY,aW,reduceEqDiff,reduceAdd,reduceSub,reduceIte,reduceCtorEq,Nat.reduceBEq,reduceLT])|(refine aZ (hR) rfl rfl ?_)|(refine a6 (hR) rfl rfl ?_)|(refine aZ hV (by simp [cA,cW,Off.s_unown]) rfl ?_)|((first|apply aO|apply aQ|apply aK)<;>intro h<;>try simp only [h]))
   all_goals simp
  | false =>
   rw [hl,if_neg (by simp)] at hR
   refine bV (fn:=f30) (by exact func30) c30 r30 (n:=12) (by rfl) (rv:=[.tmp 2,.tmp 3]) (by rfl) (by simp) ?_
   unfold m30
   try simp only [wQ]
   repeat' (first|(simp only [Off.s_noOwn,Off.s_isV,↓b9,aV,xR,xW,bE,↓wA,↓wC,wB,aY,aW,reduceEqDiff,reduceAdd,reduceSub,reduceIte,reduceCtorEq,Nat.reduceBEq,reduceLT])|(refine aZ (hR) rfl rfl ?_)|(refine a6 (hR) rfl rfl ?_)|(refine aZ hV (by simp [cA,cW,Off.s_unown]) rfl ?_)|((first|apply aO|apply aQ|apply aK)<;>intro h<;>try simp only [h]))
   all_goals simp
theorem aGv {o:Off} (h:cM o=true):decide ((0:Int) < (o.led.length:Int))=d5 o.led:=by
 simp only [cM,mW,wV,Bool.and_eq_true,Bool.or_eq_true,Bool.not_eq_true'] at h
 rcases h.1.2 with h|h
 ·rw [h]
  have:¬ (0:Int) < (o.led.length:Int):=of_decide_eq_false h
  have e:o.led.length=0:=by omega
  symm
  simp [d5,bX,e]
 ·rw [h]
  simp only [d5,Bool.and_eq_true,bX,decide_eq_true_eq] at h
  exact decide_eq_true (by omega)
theorem aD4 (o:Off) (ho:o.ok0):Fn prog 31 [o.s] (fun rs=>rs=aAT o):=by
 have hV:=eW o ho
 unfold aAT
 cases hv:cM o with
 | false =>
  rw [hv] at hV
  refine bV (fn:=f31) (by exact func31) c31 r31 (n:=16) (by rfl) (rv:=[.tmp 2,.tmp 3]) (by rfl) (by simp) ?_
  unfold m31
  try simp only [wQ]
  repeat' (first|(simp only [Off.s_noOwn,Off.s_isV,↓b9,aV,↓wA,↓wC,wB,aY,aW,reduceEqDiff,reduceAdd,reduceSub,reduceIte,reduceCtorEq,Nat.reduceBEq,reduceLT])|(refine aZ hV (by simp [cA,cW,Off.s_unown]) rfl ?_)|((first|apply aO|apply aQ|apply aK)<;>intro h<;>try simp only [h]))
  all_goals simp
 | true =>
  rw [hv] at hV
  have hq:=aGv hv
  cases hl:d5 o.led with
  | true =>
   rw [hl] at hq
   have hq':=of_decide_eq_true hq
   have h0:decide ((o.led.length:Int)=0)=false:=decide_eq_false (by omega)
   have hx:∀ s∈o.led,s.length<=100:=fun s hs=>by
    simp only [d5,Bool.and_eq_true,bX,decide_eq_true_eq,List.all_eq_true] at hl
    have:=hl.2 s hs
    simp only [jB,Bool.and_eq_true] at this
    have:=tQ s.length this.1
    omega
   have hR:=aEI o.led (by simp only [d5,Bool.and_eq_true,bX,decide_eq_true_eq] at hl; omega) (by omega) hx
   refine bV (fn:=f31) (by exact func31) c31 r31 (n:=16) (by rfl) (rv:=[.tmp 2,.tmp 3]) (by rfl) (by simp) ?_
   unfold m31
   try simp only [wQ]
   repeat' (first|(simp only [h0,a7,Off.s_noOwn,Off.s_isV,↓b9,aV,xR,xW,bE,↓wA,↓wC,wB,aY,aW,reduceEqDiff,reduceAdd,reduceSub,reduceIte,reduceCtorEq,Nat.reduceBEq,reduceLT])|(refine aZ (hR) rfl rfl ?_)|(refine a6 (hR) rfl rfl ?_)|(refine aZ hV (by simp [cA,cW,Off.s_unown]) rfl ?_)|((first|apply aO|apply aQ|apply aK)<;>intro h<;>try simp only [h]))
   all_goals simp
  | false =>
   rw [hl] at hq
   have hq':=of_decide_eq_false hq
   have h0:decide ((o.led.length:Int)=0)=true:=decide_eq_true (by omega)
   refine bV (fn:=f31) (by exact func31) c31 r31 (n:=16) (by rfl) (rv:=[.tmp 2,.tmp 3]) (by rfl) (by simp) ?_
   unfold m31
   try simp only [wQ]
   repeat' (first|(simp only [h0,a7,Off.s_noOwn,Off.s_isV,↓b9,aV,xR,xW,bE,↓wA,↓wC,wB,aY,aW,reduceEqDiff,reduceAdd,reduceSub,reduceIte,reduceCtorEq,Nat.reduceBEq,reduceLT])|(refine aZ hV (by simp [cA,cW,Off.s_unown]) rfl ?_)|((first|apply aO|apply aQ|apply aK)<;>intro h<;>try simp only [h]))
   all_goals simp
end Go.Pe.Tryz
set_option maxRecDepth 100000
set_option maxHeartbeats 2000000
set_option linter.all false
namespace Go.Pe.Tryz
open Nat (reduceEqDiff reduceAdd reduceSub reduceLT)
open Go.Proofs.Tryz
theorem aFa (code:List UInt8) (hc:code.length<=1048576):Fn prog 21 [.sl false 1 (cQ code)] (fun rs=>∃ o:Off,rs=[o.s]/\sX o):=by
 refine bV (fn:=f21) (by exact func21) c21 r21 (n:=5) (by rfl) (rv:=[.cell 2 27]) (by rfl) (by simp) ?_
 unfold m21
 try simp only [wQ]
 repeat' (first|(simp only [aV,fS,↓wA,↓wC,wB,aY,aW,reduceEqDiff,reduceAdd,reduceSub,reduceIte,reduceCtorEq,Nat.reduceBEq,reduceLT,bU])|((first|apply aO|apply aQ|apply aK)<;>intro h<;>try simp only [h]))
 refine nH (vA code hc) rfl fun rs h=>?_
 obtain ⟨o,rfl,hd⟩:=h
 refine ⟨.inl rfl,?_⟩
 repeat' (first|(simp only [Off.s_noOwn,Off.s_isV,Off.s_size,aV,↓wA,↓wC,wB,aY,aW,reduceEqDiff,reduceAdd,reduceSub,reduceIte,reduceCtorEq,Nat.reduceBEq,reduceLT,bU])|((first|apply aO|apply aQ|apply aK)<;>intro h<;>try simp only [h]))
 exact bK rfl (oA _ rfl ⟨o,rfl,hd⟩)
theorem aCu (code:List UInt8) (hc:code.length<=1048576):Fn prog 29 [.sl false 1 (cQ code)] (fun rs=>∃ o:Off,rs=[o.s]/\sX o):=by
 refine bV (fn:=f29) (by exact func29) c29 r29 (n:=5) (by rfl) (rv:=[.cell 2 27]) (by rfl) (by simp) ?_
 unfold m29
 try simp only [wQ]
 repeat' (first|(simp only [aV,fS,↓wA,↓wC,wB,aY,aW,reduceEqDiff,reduceAdd,reduceSub,reduceIte,reduceCtorEq,Nat.reduceBEq,reduceLT,bU])|((first|apply aO|apply aQ|apply aK)<;>intro h<;>try simp only [h]))
 refine nH (vA code hc) rfl fun rs h=>?_
 obtain ⟨o,rfl,hd⟩:=h
 refine ⟨.inl rfl,?_⟩
 repeat' (first|(simp only [Off.s_noOwn,Off.s_isV,Off.s_size,aV,↓wA,↓wC,wB,aY,aW,reduceEqDiff,reduceAdd,reduceSub,reduceIte,reduceCtorEq,Nat.reduceBEq,reduceLT,bU])|((first|apply aO|apply aQ|apply aK)<;>intro h<;>try simp only [h]))
 exact bK rfl (oA _ rfl ⟨o,rfl,hd⟩)
theorem aCt (code:List UInt8) (hc:code.length<=1048576):Fn prog 26 [.sl false 1 (cQ code)] (fun rs=>∃ (o:Off) (n:Int),rs=[o.s,.int .i64 n]/\sX o):=by
 refine bV (fn:=f26) (by exact func26) c26 r26 (n:=13) (by rfl) (rv:=[.cell 2 27,.tmp 3]) (by rfl) (by simp) ?_
 unfold m26
 try simp only [wQ]
 repeat' (first|(simp only [aV,fS,↓wA,↓wC,wB,aY,aW,reduceEqDiff,reduceAdd,reduceSub,reduceIte,reduceCtorEq,Nat.reduceBEq,reduceLT,bU])|((first|apply aO|apply aQ|apply aK)<;>intro h<;>try simp only [h]))
 refine dF (vJ code 0 0 hc (by omega)) rfl rfl rfl ?_
 rintro _ _ ⟨o,k1,s1,rfl,rfl,hk1,hk1',hd⟩
 repeat' (first|(simp only [Off.s_noOwn,Off.s_isV,Off.s_size,aV,↓wA,↓wC,wB,aY,aW,reduceEqDiff,reduceAdd,reduceSub,reduceIte,reduceCtorEq,Nat.reduceBEq,reduceLT,bU])|((first|apply aO|apply aQ|apply aK)<;>intro h<;>try simp only [h]))
 refine dW 2 ?_
 simp only [lA,jX,iZ,D.unown,↓wA,↓wC,wB,aY,aW,reduceEqDiff,reduceAdd,reduceSub,reduceIte,reduceCtorEq,Nat.reduceBEq,reduceLT,bU]
 refine dF (zJ code k1 s1 [1,2,2,9,0,10] hc (by omega) (by decide) (by decide)) rfl rfl rfl ?_
 rintro _ _ ⟨n,k2,s2,rfl,rfl,hk2,hk2',hmn⟩
 repeat' (first|(simp only [Off.s_noOwn,Off.s_isV,Off.s_size,aV,↓wA,↓wC,wB,aY,aW,reduceEqDiff,reduceAdd,reduceSub,reduceIte,reduceCtorEq,Nat.reduceBEq,reduceLT,bU])|((first|apply aO|apply aQ|apply aK)<;>intro h<;>try simp only [h]))
 exact bK rfl (oA _ rfl ⟨o,n,rfl,hd⟩)
theorem lV {x:Off} {K:SV->Prop}:bY 1 1 (.d (.ptr x.s)) K=K (.d (.ptr (.sl false 4 (dl Cs.s x.cs)))):=by simp [Off.s,cG,bY,D.pre,D.nth,D.size]
theorem aDv (code:List UInt8) (hc:code.length<=1048576):Fn prog 32 [.sl false 1 (cQ code)] (fun rs=>∃ (o:Off) (n:Int),rs=[o.s,.int .i64 n]/\sX o):=by
 refine fK (ps:=[[1,1,1,0,0]]) (fn:=f32) (by exact func32) c32 r32 (n:=35) (by rfl) (rv:=[.cell 2 27,.tmp 3]) (by rfl) (by simp) ?_
 unfold m32
 try simp only [wQ]
 simp only [dP,eR]
 repeat' (first|(simp only [aV,fS,↓wA,↓wC,wB,aY,aW,reduceEqDiff,reduceAdd,reduceSub,reduceIte,reduceCtorEq,Nat.reduceBEq,reduceLT,bU])|((first|apply aO|apply aQ|apply aK)<;>intro h<;>try simp only [h]))
 refine dF (vJ code 0 0 hc (by omega)) rfl rfl rfl ?_
 rintro _ _ ⟨o,k1,s1,rfl,rfl,hk1,hk1',hd⟩
 repeat' (first|(simp only [Off.s_noOwn,Off.s_isV,Off.s_size,aV,↓wA,↓wC,wB,aY,aW,reduceEqDiff,reduceAdd,reduceSub,reduceIte,reduceCtorEq,Nat.reduceBEq,reduceLT,bU])|((first|apply aO|apply aQ|apply aK)<;>intro h<;>try simp only [h]))
 refine bR (gG 2 rfl) ?_
 simp only [aY,aW,Off.s_unown,↓wA,↓wC,wB,aY,aW,reduceEqDiff,reduceAdd,reduceSub,reduceIte,reduceCtorEq,Nat.reduceBEq,reduceLT,bU]
 cases h0:decide ((0:Int) < (o.cs.length:Int)) with
 | false =>
  repeat' (first|(simp only [h0,lV,a7,bB,↓b9,Off.s_noOwn,Off.s_isV,Off.s_size,aV,↓wA,↓wC,wB,aY,aW,reduceEqDiff,reduceAdd,reduceSub,reduceIte,reduceCtorEq,Nat.reduceBEq,reduceLT,bU])|((first|apply aO|apply aQ|apply aK)<;>intro h<;>try simp only [h]))
  refine cT ?_
  repeat' (first|(simp only [lV,a7,bB,↓b9,Off.s_noOwn,Off.s_isV,Off.s_size,aV,↓wA,↓wC,wB,aY,aW,reduceEqDiff,reduceAdd,reduceSub,reduceIte,reduceCtorEq,Nat.reduceBEq,reduceLT,bU])|(with_reducible refine And.intro ?_ ?_)|((first|apply aO|apply aQ|apply aK)<;>intro h<;>try simp only [h]))
  all_goals
   refine dW 3 ?_
   simp only [lA,jX,iZ,D.unown,↓wA,↓wC,wB,aY,aW,reduceEqDiff,reduceAdd,reduceSub,reduceIte,reduceCtorEq,Nat.reduceBEq,reduceLT,bU]
   refine dF (zJ code k1 s1 [0,1,12] hc (by omega) (by decide) (by decide)) rfl rfl rfl ?_
   rintro _ _ ⟨n,k4,s4,rfl,rfl,hk4,hk4',hmn⟩
   repeat' (first|(simp only [lV,a7,bB,↓b9,Off.s_noOwn,Off.s_isV,Off.s_size,aV,↓wA,↓wC,wB,aY,aW,reduceEqDiff,reduceAdd,reduceSub,reduceIte,reduceCtorEq,Nat.reduceBEq,reduceLT,bU])|((first|apply aO|apply aQ|apply aK)<;>intro h<;>try simp only [h]))
   exact bK rfl (oA _ rfl ⟨o,n,rfl,hd⟩)
 | true =>
  have h0':=of_decide_eq_true h0
  repeat' (first|(simp only [h0,lV,a7,bB,↓b9,Off.s_noOwn,Off.s_isV,Off.s_size,aV,↓wA,↓wC,wB,aY,aW,reduceEqDiff,reduceAdd,reduceSub,reduceIte,reduceCtorEq,Nat.reduceBEq,reduceLT,bU])|((first|apply aO|apply aQ|apply aK)<;>intro h<;>try simp only [h]))
  refine dF (aMN code k1 s1 6 hc (by omega)) rfl rfl rfl ?_
  rintro _ _ ⟨b,k2,s2,rfl,rfl,hk2,hk2'⟩
  cases b with
  | true =>
   repeat' (first|(simp only [lV,a7,bB,↓b9,Off.s_noOwn,Off.s_isV,Off.s_size,aV,↓wA,↓wC,wB,aY,aW,reduceEqDiff,reduceAdd,reduceSub,reduceIte,reduceCtorEq,Nat.reduceBEq,reduceLT,bU])|((first|apply aO|apply aQ|apply aK)<;>intro h<;>try simp only [h]))
   refine cT ?_
   repeat' (first|(simp only [lV,a7,bB,↓b9,Off.s_noOwn,Off.s_isV,Off.s_size,aV,↓wA,↓wC,wB,aY,aW,reduceEqDiff,reduceAdd,reduceSub,reduceIte,reduceCtorEq,Nat.reduceBEq,reduceLT,bU])|(with_reducible refine And.intro ?_ ?_)|((first|apply aO|apply aQ|apply aK)<;>intro h<;>try simp only [h]))
   all_goals
    refine dW 3 ?_
    simp only [lA,jX,iZ,D.unown,↓wA,↓wC,wB,aY,aW,reduceEqDiff,reduceAdd,reduceSub,reduceIte,reduceCtorEq,Nat.reduceBEq,reduceLT,bU]
    refine dF (zJ code k2 s2 [0,1,12] hc (by omega) (by decide) (by decide)) rfl rfl rfl ?_
    rintro _ _ ⟨n,k4,s4,rfl,rfl,hk4,hk4',hmn⟩
    repeat' (first|(simp only [lV,a7,bB,↓b9,Off.s_noOwn,Off.s_isV,Off.s_size,aV,↓wA,↓wC,wB,aY,aW,reduceEqDiff,reduceAdd,reduceSub,reduceIte,reduceCtorEq,Nat.reduceBEq,reduceLT,bU])|((first|apply aO|apply aQ|apply aK)<;>intro h<;>try simp only [h]))
    exact bK rfl (oA _ rfl ⟨o,n,rfl,hd⟩)
  | false =>
   repeat' (first|(simp only [lV,a7,bB,↓b9,Off.s_noOwn,Off.s_isV,Off.s_size,aV,↓wA,↓wC,wB,aY,aW,reduceEqDiff,reduceAdd,reduceSub,reduceIte,reduceCtorEq,Nat.reduceBEq,reduceLT,bU])|((first|apply aO|apply aQ|apply aK)<;>intro h<;>try simp only [h]))
   refine cT ?_
   repeat' (first|(simp only [lV,a7,bB,↓b9,Off.s_noOwn,Off.s_isV,Off.s_size,aV,↓wA,↓wC,wB,aY,aW,reduceEqDiff,reduceAdd,reduceSub,reduceIte,reduceCtorEq,Nat.reduceBEq,reduceLT,bU])|(with_reducible refine And.intro ?_ ?_)|((first|apply aO|apply aQ|apply aK)<;>intro h<;>try simp only [h]))
   all_goals
    refine dF (aBY code k2 s2 o.cs.length hc (by omega)) rfl rfl rfl ?_
    rintro _ _ ⟨p,k4,s4,rfl,rfl,hk4,hk4',hp,hp'⟩
    obtain ⟨x,hx⟩:=cK (show p.toNat < o.cs.length by omega)
    repeat' (first|(simp only [bW,hp,hx,nJ,Option.map_some,↓e9,lV,a7,bB,↓b9,Off.s_noOwn,Off.s_isV,Off.s_size,aV,↓wA,↓wC,wB,aY,aW,reduceEqDiff,reduceAdd,reduceSub,reduceIte,reduceCtorEq,Nat.reduceBEq,reduceLT,bU])|((first|apply aO|apply aQ|apply aK)<;>intro h<;>try simp only [h]))
    exact bK rfl (oA _ rfl ⟨o,x.i,rfl,hd⟩)
end Go.Pe.Tryz
