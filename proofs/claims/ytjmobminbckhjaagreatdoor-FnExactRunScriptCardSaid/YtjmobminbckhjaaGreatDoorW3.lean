/- The cases of an office of which something is so; those that are due, blocked, held; walked; The cases of an office with a hold: the reference, walked; the law of HeldCases; Roots of ledgers: hashes, rounds (the reference's), walked; Roots of ledgers: the loops, walked (the program's round is taken as told: roundOK); The root of an office's ledger, walked (the program's round as told: roundOK); The library's iterator over the pieces of a slice of numbers, two at a time: its contract; The program's round: the body of its loop, walked; what it is behind the loop; The program's round, walked to its end: what is asked of it (roundOK) is so; slices.Delete at cases and at numbers: walked over raw memory; its contract; slices.Insert at cases: walked over raw memory; its contract; slices.Insert at cases where there is room; its contract; Valid lists of appeals, walked; Valid lists of appeals as the reference has them, walked; The law of AreAppeals, joined -/
import Derived.Test.YtjmobminbckhjaaGreatDoorW2
import Derived.RangeFuncNested
import Derived.RangeFuncBound
import Derived.RangeFuncCalls
import Derived.RangeFuncBox
import Derived.RangeFuncLeaves
import Derived.Shelf.Abstract
import Derived.Shelf.RegionOpen
import Derived.RegionTactic
import Derived.RegionIn
import Derived.WalkKit
import Derived.OwnWalkIn
import Derived.TacticsInMore
import Derived.LoopNIn
import Derived.LoopIn
import Derived.Test.YtjmobminbckhjaaGreatDoorProg
import Derived.Test.YtjmobminbckhjaaGreatDoorPeD
import Derived.Test.YtjmobminbckhjaaGreatDoorMc1
import Derived.Test.YtjmobminbckhjaaGreatDoorMc2
import Derived.Test.YtjmobminbckhjaaGreatDoorMc3
import Derived.Test.YtjmobminbckhjaaGreatDoorMc4
import Derived.Test.YtjmobminbckhjaaGreatDoorMc5
import Derived.Test.YtjmobminbckhjaaGreatDoorMc6
import Derived.Test.YtjmobminbckhjaaGreatDoorMc7
import Derived.Test.YtjmobminbckhjaaGreatDoorMc8
import Derived.Maps.AppendAt
import Derived.Shelf.RegionOpenPlain
import Derived.Deep.RegionLaw
import Derived.Lib.Walk
import Derived.Lib.SliceRun
import Derived.Lib.AppendZerosOnto
import Derived.Lib.Overlaps
import Derived.Laws.IdiomCopy
import Derived.Laws.NewBlocks
import Derived.OwnWalk
import Derived.Test.YtjmobminbckhjaaGreatDoorW1
set_option maxRecDepth 100000
set_option maxHeartbeats 4000000
set_option linter.all false
namespace Go.Pe.Tryz
open Nat (reduceEqDiff reduceAdd reduceSub reduceLT)
open Go.Proofs.Tryz
theorem oX {x:Off} {K:SV->Prop}:dG 0 0 (.d (.ptr x.s)) K=K (.d (.ptr (.int .i64 x.day))):=by simp [Off.s,dU,dG,D.pre,D.nth,D.size]
def mR (p:Cs->Bool) (xs:List Cs):List Int:=(xs.filter p).map Cs.i
theorem sJ {p:Cs->Bool} {xs:List Cs} {i:Nat} {x:Cs} (hr:xs[i]?=some x):mR p (xs.take (i + 1))=mR p (xs.take i) ++ (if p x=true then [x.i] else []):=by
 unfold mR
 rw [e7 hr,List.filter_append,List.map_append]
 cases h:p x<;>simp [h]
theorem rZ (p:Cs->Bool) (xs:List Cs):(mR p xs).length<=xs.length:=by
 unfold mR
 rw [List.length_map]
 exact List.length_filter_le _ _
theorem gD (V:List Int) (n:Int):(dl iD V).app (D.cons (.int .i64 n) .nil)=dl iD (V ++ [n]):=iM (f:=iD) V n
theorem xL (p:Cs->Bool) (g:Nat) (c:D) (o:Off) (ho:o.ok0) (hc:c.caps=true) (he:gE prog.P g=true) (hp:∀ x∈o.cs,Fn prog g (x.s :: c.list) (fun rs=>rs=[.bool (p x)])):Fn prog 149 [o.s,.clo g c] (fun rs=>rs=[.sl true 1 (dl iD (mR p o.cs))]):=by
 have hlen:=ho.1.1
 refine cW aRH [] ?_
 dsimp only [aRH,cT,c7]
 repeat' (first|(simp only [aWv,aWw,cJ,cO,cX,jE,jM,↓wA,↓wC,wB,cL,cK,reduceEqDiff,reduceAdd,reduceSub,reduceIte,reduceCtorEq,Nat.reduceBEq,reduceLT])|((first|apply cG|apply cH|apply cF)<;>intro h<;>try simp only [h]))
 refine qO [(5,1)] o.cs.length (fun i:Nat=>⟨[(1,.d (.clo g c)),(5,.own 1),(9,.d (.sl false 4 (dl Cs.s o.cs))),(10,.d (.int .i64 o.cs.length)),(11,.d (.int .i64 i))],[.box o.s,.val (.sl true 1 (dl iD (mR p (o.cs.take i))))]⟩) (fun _=>True) ⟨rfl,trivial⟩ ?_ trivial ?_ ?_
 ·exact (cU _ rfl ⟨⟨rfl,rfl⟩,⟨rfl,rfl⟩,⟨rfl,rfl⟩,⟨rfl,rfl⟩,⟨rfl,rfl⟩,trivial⟩)
 ·intro i hlt _ hd h0
  obtain ⟨x,hr⟩:=dQ hlt
  have hW:=hp x (List.mem_of_getElem? hr)
  have hsn:=sJ (p:=p) hr
  have hvl:=rZ p (o.cs.take i)
  rw [List.length_take,Nat.min_eq_left (by omega)] at hvl
  repeat' (first|(simp only [cO,hd,h0,c6,Int.toNat_natCast,hr,Option.map_some,cJ,↓iI,aWE,aWC,aWF,↓wA,↓wC,wB,cL,cK,reduceEqDiff,reduceAdd,reduceSub,reduceIte,reduceCtorEq,Nat.reduceBEq,reduceLT])|((first|apply cG|apply cH|apply cF)<;>intro h<;>try simp only [h]))
  refine vH (ds:=[x.s]) hW he hc (by simp [dB,dI,kP,aWD]) rfl ?_
  cases hw:p x with
  | false =>
   rw [hw] at hsn
   repeat' (first|(simp only [cJ,↓wA,↓wC,wB,cL,cK,reduceEqDiff,reduceAdd,reduceSub,reduceIte,reduceCtorEq,Nat.reduceBEq,reduceLT])|(with_reducible refine cP ?_ ?_; focus (simp only [dW]; omega))|((first|apply cG|apply cH|apply cF)<;>intro h<;>try simp only [h]))
   refine ⟨i + 1,?_,by omega,by omega⟩
   rw [hsn]
   simp only [Bool.false_eq_true,if_false,List.append_nil]
   exact (cU _ rfl ⟨⟨rfl,rfl⟩,⟨rfl,rfl⟩,⟨rfl,rfl⟩,⟨rfl,rfl⟩,⟨rfl,rfl⟩,trivial⟩)
  | true =>
   rw [hw] at hsn
   repeat' (first|(simp only [cO,cJ,iN,iO,gD,↓wA,↓wC,wB,cL,cK,reduceEqDiff,reduceAdd,reduceSub,reduceIte,reduceCtorEq,Nat.reduceBEq,reduceLT])|(with_reducible refine cP ?_ ?_; focus (simp only [dW]; omega))|(with_reducible refine cQ ?_ ?_; focus omega)|(with_reducible refine cQ ?_ ?_; focus (simp; done))|((first|apply cG|apply cH|apply cF)<;>intro h<;>try simp only [h]))
   refine ⟨i + 1,?_,by omega,by omega⟩
   rw [hsn]
   simp only [if_true]
   exact (cU _ rfl ⟨⟨rfl,rfl⟩,⟨rfl,rfl⟩,⟨rfl,rfl⟩,⟨rfl,rfl⟩,⟨rfl,rfl⟩,trivial⟩)
 ·intro _ hd
  repeat' (first|(simp only [hd,List.take_length,↓wA,↓wC,wB,cL,cK,reduceEqDiff,reduceAdd,reduceSub,reduceIte,reduceCtorEq,Nat.reduceBEq,reduceLT])|((first|apply cG|apply cH|apply cF)<;>intro h<;>try simp only [h]))
def rE (o:Off) (x:Cs):Bool:=decide (x.d<=o.day)
def aA6 (b:Bool) (p:Cs->Bool) (o:Off):List D:=if dP o=true then [.sl b 1 (dl iD (mR p o.cs)),.bool true] else [.sl true 1 .nil,.bool false]
theorem aKa (o:Off) (x:Cs):Fn prog 153 [x.s,.ptr o.s] (fun rs=>rs=[.bool (rE o x)]):=by
 refine cW aQG [] ?_
 dsimp only [aQG,cT,c7]
 repeat' (first|(simp only [cJ,aWF,aWE,iW,iV,oX,↓wA,↓wC,wB,cL,cK,reduceEqDiff,reduceAdd,reduceSub,reduceIte,reduceCtorEq,Nat.reduceBEq,reduceLT])|((first|apply cG|apply cH|apply cF)<;>intro h<;>try simp only [h]))
 all_goals rfl
theorem aIl (o:Off) (ho:o.ok0):Fn prog 110 [o.s] (fun rs=>rs=aA6 true (rE o) o):=by
 have hV:=jV o ho
 have h:=xL (rE o) 153 (.cons (.ptr o.s) .nil) o ho rfl aTM (fun x _=>aKa o x)
 unfold aA6
 cases hv:dP o with
 | false =>
  rw [hv] at hV
  refine cW aJt [] ?_
  dsimp only [aJt,cT,c7]
  repeat' (first|(simp only [aWv,aWw,↓dF,cJ,↓wA,↓wC,wB,cL,cK,reduceEqDiff,reduceAdd,reduceSub,reduceIte,reduceCtorEq,Nat.reduceBEq,reduceLT])|(refine cI hV (by simp [dB,dI,aWu]) rfl ?_)|((first|apply cG|apply cH|apply cF)<;>intro h<;>try simp only [h]))
  all_goals (refine lM 1 ?_; simp)
 | true =>
  rw [hv] at hV
  refine cW aJt [[1,1,0]] ?_
  dsimp only [aJt,cT,c7]
  repeat' (first|(simp only [aWv,aWw,↓dF,cJ,↓wA,↓wC,wB,cL,cK,reduceEqDiff,reduceAdd,reduceSub,reduceIte,reduceCtorEq,Nat.reduceBEq,reduceLT])|(refine cI hV (by simp [dB,dI,aWu]) rfl ?_)|((first|apply cG|apply cH|apply cF)<;>intro h<;>try simp only [h]))
  refine c8 (gI 0 rfl) ?_
  repeat' (first|(simp only [aWv,aWw,↓dF,cJ,aWu,↓wA,↓wC,wB,cL,cK,reduceEqDiff,reduceAdd,reduceSub,reduceIte,reduceCtorEq,Nat.reduceBEq,reduceLT])|(refine cI h (by simp [dB,dI,aWu]) rfl ?_)|((first|apply cG|apply cH|apply cF)<;>intro h<;>try simp only [h]))
  all_goals trace_state
def rD (o:Off) (x:Cs):Bool:=decide (x.d<=o.day) && decide (x.a=3) && decide (0 < (x.h.length:Int))
theorem aKM (o:Off) (x:Cs):Fn prog 154 [x.s,.ptr o.s] (fun rs=>rs=[.bool (rD o x)]):=by
 unfold rD
 cases h1:decide (x.d<=o.day)<;>cases h2:decide (x.a=3)
 all_goals
  refine cW aQX [] ?_
  dsimp only [aQX,cT,c7]
  repeat' (first|(simp only [h1,h2,cO,cY,cJ,aWF,aWE,jK,jJ,iW,iV,iX,iZ,oX,↓wA,↓wC,wB,cL,cK,reduceEqDiff,reduceAdd,reduceSub,reduceIte,reduceCtorEq,Nat.reduceBEq,reduceLT])|((first|apply cG|apply cH|apply cF)<;>intro h<;>try simp only [h]))
  all_goals simp
theorem aHK (o:Off) (ho:o.ok0):Fn prog 111 [o.s] (fun rs=>rs=aA6 true (rD o) o):=by
 have hV:=jV o ho
 have h:=xL (rD o) 154 (.cons (.ptr o.s) .nil) o ho rfl aUi (fun x _=>aKM o x)
 unfold aA6
 cases hv:dP o with
 | false =>
  rw [hv] at hV
  refine cW aI8 [] ?_
  dsimp only [aI8,cT,c7]
  repeat' (first|(simp only [aWv,aWw,↓dF,cJ,↓wA,↓wC,wB,cL,cK,reduceEqDiff,reduceAdd,reduceSub,reduceIte,reduceCtorEq,Nat.reduceBEq,reduceLT])|(refine cI hV (by simp [dB,dI,aWu]) rfl ?_)|((first|apply cG|apply cH|apply cF)<;>intro h<;>try simp only [h]))
  all_goals (refine lM 1 ?_; simp)
 | true =>
  rw [hv] at hV
  refine cW aI8 [[1,1,0]] ?_
  dsimp only [aI8,cT,c7]
  repeat' (first|(simp only [aWv,aWw,↓dF,cJ,↓wA,↓wC,wB,cL,cK,reduceEqDiff,reduceAdd,reduceSub,reduceIte,reduceCtorEq,Nat.reduceBEq,reduceLT])|(refine cI hV (by simp [dB,dI,aWu]) rfl ?_)|((first|apply cG|apply cH|apply cF)<;>intro h<;>try simp only [h]))
  refine c8 (gI 0 rfl) ?_
  repeat' (first|(simp only [aWv,aWw,↓dF,cJ,aWu,↓wA,↓wC,wB,cL,cK,reduceEqDiff,reduceAdd,reduceSub,reduceIte,reduceCtorEq,Nat.reduceBEq,reduceLT])|(refine cI h (by simp [dB,dI,aWu]) rfl ?_)|((first|apply cG|apply cH|apply cF)<;>intro h<;>try simp only [h]))
  all_goals trace_state
def aCD (n:Int) (x:Cs):Bool:=x.h.contains n
def aKs (n:Int) (o:Off):List D:=if dP o=true/\dC n 1 9=true then [.sl true 1 (dl iD (mR (aCD n) o.cs)),.bool true] else [.sl true 1 .nil,.bool false]
theorem aLf (n:Int):Fn prog 140 [.int .i64 n] (fun rs=>rs=[.bool (dC n 1 9)]):=by
 refine cW aJo [] ?_
 dsimp only [aJo,cT,c7]
 repeat' (first|(simp only [↓wA,↓wC,wB,cL,cK,reduceEqDiff,reduceAdd,reduceSub,reduceIte,reduceCtorEq,Nat.reduceBEq,reduceLT])|(refine cI (e9 _ _ _) rfl rfl ?_)|(refine cM (e9 _ _ _) rfl rfl ?_)|((first|apply cG|apply cH|apply cF)<;>intro h<;>try simp only [h]))
theorem aKe (n:Int) (x:Cs) (hx:x.ok0):Fn prog 150 [x.s,.ptr (.int .i64 n)] (fun rs=>rs=[.bool (aCD n x)]):=by
 have h:=xY x.h n hx
 refine cW aRk [] ?_
 dsimp only [aRk,cT,c7]
 repeat' (first|(simp only [cY,cJ,aWF,aWE,iX,iZ,↓wA,↓wC,wB,cL,cK,reduceEqDiff,reduceAdd,reduceSub,reduceIte,reduceCtorEq,Nat.reduceBEq,reduceLT])|(refine cI (h) rfl rfl ?_)|(refine cM (h) rfl rfl ?_)|((first|apply cG|apply cH|apply cF)<;>intro h<;>try simp only [h]))
 all_goals rfl
theorem aFN (o:Off) (n:Int) (ho:o.ok0):Fn prog 108 [o.s,.int .i64 n] (fun rs=>rs=aKs n o):=by
 have hV:=jV o ho
 have hN:=aLf n
 have h:=xL (aCD n) 150 (.cons (.ptr (.int .i64 n)) .nil) o ho rfl aUj (fun x hx=>aKe n x (ho.1.2 x hx))
 unfold aKs
 cases hv:dP o with
 | false =>
  rw [hv] at hV
  refine cW aEB [] ?_
  dsimp only [aEB,cT,c7]
  repeat' (first|(simp only [aWv,aWw,↓dF,cJ,↓wA,↓wC,wB,cL,cK,reduceEqDiff,reduceAdd,reduceSub,reduceIte,reduceCtorEq,Nat.reduceBEq,reduceLT])|(refine cI hV (by simp [dB,dI,aWu]) rfl ?_)|((first|apply cG|apply cH|apply cF)<;>intro h<;>try simp only [h]))
  all_goals (refine lM 1 ?_; simp)
 | true =>
  rw [hv] at hV
  cases hn:dC n 1 9 with
  | false =>
   rw [hn] at hN
   refine cW aEB [] ?_
   dsimp only [aEB,cT,c7]
   repeat' (first|(simp only [aWv,aWw,↓dF,cJ,↓wA,↓wC,wB,cL,cK,reduceEqDiff,reduceAdd,reduceSub,reduceIte,reduceCtorEq,Nat.reduceBEq,reduceLT])|(refine cI (hN) rfl rfl ?_)|(refine cM (hN) rfl rfl ?_)|(refine cI hV (by simp [dB,dI,aWu]) rfl ?_)|((first|apply cG|apply cH|apply cF)<;>intro h<;>try simp only [h]))
   all_goals (refine lM 1 ?_; simp)
  | true =>
   rw [hn] at hN
   refine cW aEB [[1,1,0]] ?_
   dsimp only [aEB,cT,c7]
   repeat' (first|(simp only [aWv,aWw,↓dF,cJ,↓wA,↓wC,wB,cL,cK,reduceEqDiff,reduceAdd,reduceSub,reduceIte,reduceCtorEq,Nat.reduceBEq,reduceLT])|(refine cI (hN) rfl rfl ?_)|(refine cM (hN) rfl rfl ?_)|(refine cI hV (by simp [dB,dI,aWu]) rfl ?_)|((first|apply cG|apply cH|apply cF)<;>intro h<;>try simp only [h]))
   refine c8 (gI 1 rfl) ?_
   repeat' (first|(simp only [aWv,aWw,↓dF,cJ,aWu,D.unown,↓wA,↓wC,wB,cL,cK,reduceEqDiff,reduceAdd,reduceSub,reduceIte,reduceCtorEq,Nat.reduceBEq,reduceLT])|(refine cI h (by simp [dB,dI,aWu]) rfl ?_)|((first|apply cG|apply cH|apply cF)<;>intro h<;>try simp only [h]))
   all_goals simp
theorem aHC (o:Off) (ho:o.ok0):Fn prog 90 [o.s] (fun rs=>rs=aA6 true (rE o) o):=by
 have hlen:=ho.1.1
 have hV:=f8 o ho
 unfold aA6
 cases hv:dP o with
 | false =>
  rw [hv] at hV
  refine cW aPt [] ?_
  dsimp only [aPt,cT,c7]
  repeat' (first|(simp only [aWv,aWw,↓dF,cJ,↓wA,↓wC,wB,cL,cK,reduceEqDiff,reduceAdd,reduceSub,reduceIte,reduceCtorEq,Nat.reduceBEq,reduceLT])|(refine cI hV (by simp [dB,dI,aWu]) rfl ?_)|((first|apply cG|apply cH|apply cF)<;>intro h<;>try simp only [h]))
  all_goals simp
 | true =>
  rw [hv] at hV
  refine cW aPt [] ?_
  dsimp only [aPt,cT,c7]
  repeat' (first|(simp only [aWv,aWw,↓dF,cJ,↓wA,↓wC,wB,cL,cK,reduceEqDiff,reduceAdd,reduceSub,reduceIte,reduceCtorEq,Nat.reduceBEq,reduceLT])|(refine cI hV (by simp [dB,dI,aWu]) rfl ?_)|((first|apply cG|apply cH|apply cF)<;>intro h<;>try simp only [h]))
  refine dR o.cs.length (fun i:Nat=>⟨[(1,.ptr 0 0 []),(4,.own 1),(5,.d (.int .i64 i))],[.box o.s,.val (.sl true 1 (dl iD (mR (rE o) (o.cs.take i))))]⟩) (fun _=>True) (cU _ rfl ⟨⟨rfl,rfl⟩,⟨rfl,rfl⟩,⟨rfl,rfl⟩,trivial⟩) trivial ?_ ?_
  ·intro i hlt _ hd h0
   obtain ⟨x,hr⟩:=dQ hlt
   have hxo:=ho.1.2 x (List.mem_of_getElem? hr)
   have hsn:=sJ (p:=rE o) hr
   have hvl:=rZ (rE o) (o.cs.take i)
   rw [List.length_take,Nat.min_eq_left (by omega)] at hvl
   skip
   cases hw:rE o x with
   | false =>
    rw [hw] at hsn
    unfold rE at hw; have h1:=hw; have h2:=hw; have h3:=hw
    repeat' (first|(simp only [cO,hd,h0,c6,Int.toNat_natCast,hr,Option.map_some,cJ,cX,gW,gX,jE,jM,↓iI,cY,pR,wP,sS,uL,iN,iO,jK,jJ,iW,iV,iX,iZ,aWE,aWC,aWF,h1,h2,h3,↓wA,↓wC,wB,cL,cK,reduceEqDiff,reduceAdd,reduceSub,reduceIte,reduceCtorEq,Nat.reduceBEq,reduceLT])|(refine cI (hV) rfl rfl ?_)|(refine cM (hV) rfl rfl ?_)|(with_reducible refine cP ?_ ?_; focus (simp only [dW]; omega))|((first|apply cG|apply cH|apply cF)<;>intro h<;>try simp only [h]))
    all_goals first
     |(refine ⟨i + 1,?_,by omega,by omega⟩
       rw [hsn]
       simp only [Bool.false_eq_true,if_false,List.append_nil]
       exact (cU _ rfl ⟨⟨rfl,rfl⟩,⟨rfl,rfl⟩,⟨rfl,rfl⟩,trivial⟩))
     |(exfalso; simp_all; done)
   | true =>
    rw [hw] at hsn
    unfold rE at hw; have h1:=hw; have h2:=hw; have h3:=hw
    repeat' (first|(simp only [cO,hd,h0,c6,Int.toNat_natCast,hr,Option.map_some,cJ,cX,gW,gX,jE,jM,↓iI,cY,pR,wP,sS,uL,iN,iO,jK,jJ,iW,iV,iX,iZ,aWE,aWC,aWF,gD,h1,h2,h3,↓wA,↓wC,wB,cL,cK,reduceEqDiff,reduceAdd,reduceSub,reduceIte,reduceCtorEq,Nat.reduceBEq,reduceLT])|(refine cI (hV) rfl rfl ?_)|(refine cM (hV) rfl rfl ?_)|(with_reducible refine cP ?_ ?_; focus (simp only [dW]; omega))|(with_reducible refine cQ ?_ ?_; focus omega)|(with_reducible refine cQ ?_ ?_; focus (simp; done))|((first|apply cG|apply cH|apply cF)<;>intro h<;>try simp only [h]))
    all_goals first
     |(refine ⟨i + 1,?_,by omega,by omega⟩
       rw [hsn]
       simp only [if_true]
       exact (cU _ rfl ⟨⟨rfl,rfl⟩,⟨rfl,rfl⟩,⟨rfl,rfl⟩,trivial⟩))
     |(exfalso; simp_all; done)
  ·intro _ hd
   repeat' (first|(simp only [hd,cO,List.take_length,cX,jE,jM,cJ,↓wA,↓wC,wB,cL,cK,reduceEqDiff,reduceAdd,reduceSub,reduceIte,reduceCtorEq,Nat.reduceBEq,reduceLT])|((first|apply cG|apply cH|apply cF)<;>intro h<;>try simp only [h]))
theorem aCi (o:Off) (ho:o.ok0):Fn prog 92 [o.s] (fun rs=>rs=aA6 true (rD o) o):=by
 have hlen:=ho.1.1
 have hV:=f8 o ho
 unfold aA6
 cases hv:dP o with
 | false =>
  rw [hv] at hV
  refine cW aPj [] ?_
  dsimp only [aPj,cT,c7]
  repeat' (first|(simp only [aWv,aWw,↓dF,cJ,↓wA,↓wC,wB,cL,cK,reduceEqDiff,reduceAdd,reduceSub,reduceIte,reduceCtorEq,Nat.reduceBEq,reduceLT])|(refine cI hV (by simp [dB,dI,aWu]) rfl ?_)|((first|apply cG|apply cH|apply cF)<;>intro h<;>try simp only [h]))
  all_goals simp
 | true =>
  rw [hv] at hV
  refine cW aPj [] ?_
  dsimp only [aPj,cT,c7]
  repeat' (first|(simp only [aWv,aWw,↓dF,cJ,↓wA,↓wC,wB,cL,cK,reduceEqDiff,reduceAdd,reduceSub,reduceIte,reduceCtorEq,Nat.reduceBEq,reduceLT])|(refine cI hV (by simp [dB,dI,aWu]) rfl ?_)|((first|apply cG|apply cH|apply cF)<;>intro h<;>try simp only [h]))
  refine dR o.cs.length (fun i:Nat=>⟨[(1,.ptr 0 0 []),(4,.own 1),(5,.d (.int .i64 i))],[.box o.s,.val (.sl true 1 (dl iD (mR (rD o) (o.cs.take i))))]⟩) (fun _=>True) (cU _ rfl ⟨⟨rfl,rfl⟩,⟨rfl,rfl⟩,⟨rfl,rfl⟩,trivial⟩) trivial ?_ ?_
  ·intro i hlt _ hd h0
   obtain ⟨x,hr⟩:=dQ hlt
   have hxo:=ho.1.2 x (List.mem_of_getElem? hr)
   have hsn:=sJ (p:=rD o) hr
   have hvl:=rZ (rD o) (o.cs.take i)
   rw [List.length_take,Nat.min_eq_left (by omega)] at hvl
   skip
   cases hw:rD o x with
   | false =>
    rw [hw] at hsn
    unfold rD at hw; cases h1:decide (x.d<=o.day)<;>cases h2:decide (x.a=3)<;>cases h3:decide (0 < (x.h.length:Int))<;>simp only [h1,h2,h3,Bool.true_and,Bool.false_and,Bool.and_true,Bool.and_false,Bool.true_eq_false,Bool.false_eq_true] at hw
    repeat' (first|(simp only [cO,hd,h0,c6,Int.toNat_natCast,hr,Option.map_some,cJ,cX,gW,gX,jE,jM,↓iI,cY,pR,wP,sS,uL,iN,iO,jK,jJ,iW,iV,iX,iZ,aWE,aWC,aWF,h1,h2,h3,↓wA,↓wC,wB,cL,cK,reduceEqDiff,reduceAdd,reduceSub,reduceIte,reduceCtorEq,Nat.reduceBEq,reduceLT])|(refine cI (hV) rfl rfl ?_)|(refine cM (hV) rfl rfl ?_)|(with_reducible refine cP ?_ ?_; focus (simp only [dW]; omega))|((first|apply cG|apply cH|apply cF)<;>intro h<;>try simp only [h]))
    all_goals first
     |(refine ⟨i + 1,?_,by omega,by omega⟩
       rw [hsn]
       simp only [Bool.false_eq_true,if_false,List.append_nil]
       exact (cU _ rfl ⟨⟨rfl,rfl⟩,⟨rfl,rfl⟩,⟨rfl,rfl⟩,trivial⟩))
     |(exfalso; simp_all; done)
   | true =>
    rw [hw] at hsn
    unfold rD at hw; cases h1:decide (x.d<=o.day)<;>cases h2:decide (x.a=3)<;>cases h3:decide (0 < (x.h.length:Int))<;>simp only [h1,h2,h3,Bool.true_and,Bool.false_and,Bool.and_true,Bool.and_false,Bool.true_eq_false,Bool.false_eq_true] at hw
    repeat' (first|(simp only [cO,hd,h0,c6,Int.toNat_natCast,hr,Option.map_some,cJ,cX,gW,gX,jE,jM,↓iI,cY,pR,wP,sS,uL,iN,iO,jK,jJ,iW,iV,iX,iZ,aWE,aWC,aWF,gD,h1,h2,h3,↓wA,↓wC,wB,cL,cK,reduceEqDiff,reduceAdd,reduceSub,reduceIte,reduceCtorEq,Nat.reduceBEq,reduceLT])|(refine cI (hV) rfl rfl ?_)|(refine cM (hV) rfl rfl ?_)|(with_reducible refine cP ?_ ?_; focus (simp only [dW]; omega))|(with_reducible refine cQ ?_ ?_; focus omega)|(with_reducible refine cQ ?_ ?_; focus (simp; done))|((first|apply cG|apply cH|apply cF)<;>intro h<;>try simp only [h]))
    all_goals first
     |(refine ⟨i + 1,?_,by omega,by omega⟩
       rw [hsn]
       simp only [if_true]
       exact (cU _ rfl ⟨⟨rfl,rfl⟩,⟨rfl,rfl⟩,⟨rfl,rfl⟩,trivial⟩))
     |(exfalso; simp_all; done)
  ·intro _ hd
   repeat' (first|(simp only [hd,cO,List.take_length,cX,jE,jM,cJ,↓wA,↓wC,wB,cL,cK,reduceEqDiff,reduceAdd,reduceSub,reduceIte,reduceCtorEq,Nat.reduceBEq,reduceLT])|((first|apply cG|apply cH|apply cF)<;>intro h<;>try simp only [h]))
theorem aF3 (o:Off) (n:Int) (ho:o.ok0):Fn prog 94 [o.s,.int .i64 n] (fun rs=>rs=aKs n o):=by
 have hlen:=ho.1.1
 have hV:=f8 o ho
 have hN:=iK n 1 9
 unfold aKs
 cases hv:dP o with
 | false =>
  rw [hv] at hV
  refine cW aJ2 [] ?_
  dsimp only [aJ2,cT,c7]
  repeat' (first|(simp only [aWv,aWw,↓dF,cJ,↓wA,↓wC,wB,cL,cK,reduceEqDiff,reduceAdd,reduceSub,reduceIte,reduceCtorEq,Nat.reduceBEq,reduceLT])|(refine cI hV (by simp [dB,dI,aWu]) rfl ?_)|((first|apply cG|apply cH|apply cF)<;>intro h<;>try simp only [h]))
  all_goals simp
 | true =>
  rw [hv] at hV
  cases hn:dC n 1 9 with
  | false =>
   rw [hn] at hN
   refine cW aJ2 [] ?_
   dsimp only [aJ2,cT,c7]
   repeat' (first|(simp only [aWv,aWw,↓dF,cJ,↓wA,↓wC,wB,cL,cK,reduceEqDiff,reduceAdd,reduceSub,reduceIte,reduceCtorEq,Nat.reduceBEq,reduceLT])|(refine cI (hN) rfl rfl ?_)|(refine cM (hN) rfl rfl ?_)|(refine cI hV (by simp [dB,dI,aWu]) rfl ?_)|((first|apply cG|apply cH|apply cF)<;>intro h<;>try simp only [h]))
   all_goals simp
  | true =>
   rw [hn] at hN
   refine cW aJ2 [] ?_
   dsimp only [aJ2,cT,c7]
   repeat' (first|(simp only [aWv,aWw,↓dF,cJ,↓wA,↓wC,wB,cL,cK,reduceEqDiff,reduceAdd,reduceSub,reduceIte,reduceCtorEq,Nat.reduceBEq,reduceLT])|(refine cI (hN) rfl rfl ?_)|(refine cM (hN) rfl rfl ?_)|(refine cI hV (by simp [dB,dI,aWu]) rfl ?_)|((first|apply cG|apply cH|apply cF)<;>intro h<;>try simp only [h]))
   refine dR o.cs.length (fun i:Nat=>⟨[(1,.d (.int .i64 n)),(2,.ptr 0 0 []),(6,.own 1),(7,.d (.int .i64 i))],[.box o.s,.val (.sl true 1 (dl iD (mR (aCD n) (o.cs.take i))))]⟩) (fun _=>True) (cU _ rfl ⟨⟨rfl,rfl⟩,⟨rfl,rfl⟩,⟨rfl,rfl⟩,⟨rfl,rfl⟩,trivial⟩) trivial ?_ ?_
   ·intro i hlt _ hd h0
    obtain ⟨x,hr⟩:=dQ hlt
    have hxo:=ho.1.2 x (List.mem_of_getElem? hr)
    have hsn:=sJ (p:=aCD n) hr
    have hvl:=rZ (aCD n) (o.cs.take i)
    rw [List.length_take,Nat.min_eq_left (by omega)] at hvl
    have hHas:=aHl x.h n hxo
    cases hw:aCD n x with
    | false =>
     rw [hw] at hsn
     unfold aCD at hw; rw [hw] at hHas; have h1:=hw; have h2:=hw; have h3:=hw
     repeat' (first|(simp only [cO,hd,h0,c6,Int.toNat_natCast,hr,Option.map_some,cJ,cX,gW,gX,jE,jM,↓iI,cY,pR,wP,sS,uL,iN,iO,jK,jJ,iW,iV,iX,iZ,aWE,aWC,aWF,h1,h2,h3,↓wA,↓wC,wB,cL,cK,reduceEqDiff,reduceAdd,reduceSub,reduceIte,reduceCtorEq,Nat.reduceBEq,reduceLT])|(refine cI (hHas) rfl rfl ?_)|(refine cM (hHas) rfl rfl ?_)|(with_reducible refine cP ?_ ?_; focus (simp only [dW]; omega))|((first|apply cG|apply cH|apply cF)<;>intro h<;>try simp only [h]))
     all_goals first
      |(refine ⟨i + 1,?_,by omega,by omega⟩
        rw [hsn]
        simp only [Bool.false_eq_true,if_false,List.append_nil]
        exact (cU _ rfl ⟨⟨rfl,rfl⟩,⟨rfl,rfl⟩,⟨rfl,rfl⟩,⟨rfl,rfl⟩,trivial⟩))
      |(exfalso; simp_all; done)
    | true =>
     rw [hw] at hsn
     unfold aCD at hw; rw [hw] at hHas; have h1:=hw; have h2:=hw; have h3:=hw
     repeat' (first|(simp only [cO,hd,h0,c6,Int.toNat_natCast,hr,Option.map_some,cJ,cX,gW,gX,jE,jM,↓iI,cY,pR,wP,sS,uL,iN,iO,jK,jJ,iW,iV,iX,iZ,aWE,aWC,aWF,gD,h1,h2,h3,↓wA,↓wC,wB,cL,cK,reduceEqDiff,reduceAdd,reduceSub,reduceIte,reduceCtorEq,Nat.reduceBEq,reduceLT])|(refine cI (hHas) rfl rfl ?_)|(refine cM (hHas) rfl rfl ?_)|(with_reducible refine cP ?_ ?_; focus (simp only [dW]; omega))|(with_reducible refine cQ ?_ ?_; focus omega)|(with_reducible refine cQ ?_ ?_; focus (simp; done))|((first|apply cG|apply cH|apply cF)<;>intro h<;>try simp only [h]))
     all_goals first
      |(refine ⟨i + 1,?_,by omega,by omega⟩
        rw [hsn]
        simp only [if_true]
        exact (cU _ rfl ⟨⟨rfl,rfl⟩,⟨rfl,rfl⟩,⟨rfl,rfl⟩,⟨rfl,rfl⟩,trivial⟩))
      |(exfalso; simp_all; done)
   ·intro _ hd
    repeat' (first|(simp only [hd,cO,List.take_length,cX,jE,jM,cJ,↓wA,↓wC,wB,cL,cK,reduceEqDiff,reduceAdd,reduceSub,reduceIte,reduceCtorEq,Nat.reduceBEq,reduceLT])|((first|apply cG|apply cH|apply cF)<;>intro h<;>try simp only [h]))
   all_goals simp
def j6 (s:List UInt8):Int:=ck (108 :: s)
def tO (a b:Int):Int:=ck (110 :: (Lib.itoa a ++ 44 :: Lib.itoa b))
def gC:List Int->List Int
 | a :: b :: r=>tO a b :: gC r
 | l=>l
def gM (n:Int):Prop:=0<=n/\n < 999979
theorem lS {n:Int} (h:gM n):dW .i64 n:=by
 obtain ⟨h1,h2⟩:=h
 simp only [dW]; omega
theorem aGm (s:List UInt8):gM (j6 s):=aDb _
theorem aNP (a b:Int):gM (tO a b):=aDb _
theorem u7:∀ v:List Int,(∀ n∈v,gM n)->∀ n∈gC v,gM n
 | [],h=>h
 | [a],h=>h
 | a :: b :: r,h=>by
  intro n hn
  rcases List.mem_cons.1 hn with rfl|hn
  ·exact aNP a b
  ·exact u7 r (fun m hm=>h m (List.mem_cons_of_mem _ (List.mem_cons_of_mem _ hm))) n hn
theorem nJ:∀ v:List Int,(gC v).length=(v.length + 1) / 2
 | []=>by simp [gC]
 | [a]=>by simp [gC]
 | a :: b :: r=>by
  have:=nJ r
  simp only [gC,List.length_cons]
  omega
theorem w5:∀ (xs ys:List Int),xs.length % 2=0->gC (xs ++ ys)=gC xs ++ gC ys
 | [],ys,_=>rfl
 | [a],ys,h=>by simp at h
 | a :: b :: r,ys,h=>by
  have:=w5 r ys (by simp only [List.length_cons] at h; omega)
  simp only [List.cons_append,gC,this]
theorem aH4 {v:List Int} {i:Nat} {a b:Int} (he:i % 2=0) (ha:v[i]?=some a) (hb:v[i + 1]?=some b):gC (v.take (i + 2))=gC (v.take i) ++ [tO a b]:=by
 have hi:=cV ha
 rw [e7 hb,e7 ha,List.append_assoc,w5 _ _ (by rw [List.length_take,Nat.min_eq_left (by omega)]; exact he)]
 rfl
theorem aH8 {v:List Int} {i:Nat} {a:Int} (he:i % 2=0) (ha:v[i]?=some a) (hb:v.length<=i + 1):gC (v.take (i + 2))=gC (v.take i) ++ [a]:=by
 have hi:=cV ha
 have e:v.take (i + 2)=v.take (i + 1):=by rw [List.take_of_length_le (by omega),List.take_of_length_le (by omega)]
 rw [e,e7 ha,w5 _ _ (by rw [List.length_take,Nat.min_eq_left (by omega)]; exact he)]
 rfl
theorem xW (s:List UInt8) (hl:s.length<=4000):Fn prog 245 [.str s] (fun rs=>rs=[.int .i64 (ck s),.bool true]):=by
 have h:=kU s (by rw [eD]; omega)
 have hd:decide ((s.length:Int) > 4000)=false:=decide_eq_false (by omega)
 have hd':decide ((4000:Int) < (s.length:Int))=false:=decide_eq_false (by omega)
 refine cW aRN [] ?_
 dsimp only [aRN,cT,c7]
 repeat' (first|(simp only [hd,hd',↓wA,↓wC,wB,cL,cK,reduceEqDiff,reduceAdd,reduceSub,reduceIte,reduceCtorEq,Nat.reduceBEq,reduceLT])|(refine cI (h) rfl rfl ?_)|(refine cM (h) rfl rfl ?_)|((first|apply cG|apply cH|apply cF)<;>intro h<;>try simp only [h]))
theorem aEZ (s:List UInt8) (hl:s.length<=100):Fn prog 219 [.str s] (fun rs=>rs=[.int .i64 (j6 s)]):=by
 have h:=xW (108 :: s) (by simp only [List.length_cons]; omega)
 refine cW aQT [] ?_
 dsimp only [aQT,cT,c7]
 repeat' (first|(simp only [cJ,↓wA,↓wC,wB,cL,cK,reduceEqDiff,reduceAdd,reduceSub,reduceIte,reduceCtorEq,Nat.reduceBEq,reduceLT])|(refine cI (h) rfl rfl ?_)|(refine cM (h) rfl rfl ?_)|(with_reducible refine cQ ?_ ?_; focus ((try simp only [List.length_append,List.length_cons,List.length_nil]); omega))|((first|apply cG|apply cH|apply cF)<;>intro h<;>try simp only [h]))
 all_goals rfl
theorem aIS (s:List UInt8) (hl:s.length<=100):Fn prog 197 [.str s] (fun rs=>rs=[.int .i64 (j6 s)]):=by
 have h:=yJ (108 :: s) (by rw [eD]; simp only [List.length_cons]; omega)
 refine cW aQ8 [] ?_
 dsimp only [aQ8,cT,c7]
 repeat' (first|(simp only [cJ,↓wA,↓wC,wB,cL,cK,reduceEqDiff,reduceAdd,reduceSub,reduceIte,reduceCtorEq,Nat.reduceBEq,reduceLT])|(refine cI (h) rfl rfl ?_)|(refine cM (h) rfl rfl ?_)|(with_reducible refine cQ ?_ ?_; focus ((try simp only [List.length_append,List.length_cons,List.length_nil]); omega))|((first|apply cG|apply cH|apply cF)<;>intro h<;>try simp only [h]))
 all_goals rfl
theorem aGs (a b:Int) (ha:gM a) (hb:gM b):Fn prog 221 [.int .i64 a,.int .i64 b] (fun rs=>rs=[.int .i64 (tO a b)]):=by
 have l1:=eT a (lS ha)
 have l2:=eT b (lS hb)
 have d1:=fG a (lS ha)
 have d2:=fG b (lS hb)
 have h:=xW (110 :: (Lib.itoa a ++ 44 :: Lib.itoa b)) (by simp only [List.length_cons,List.length_append]; omega)
 refine cW aQF [] ?_
 dsimp only [aQF,cT,c7]
 repeat' (first|(simp only [cJ,List.append_assoc,List.cons_append,List.nil_append,↓wA,↓wC,wB,cL,cK,reduceEqDiff,reduceAdd,reduceSub,reduceIte,reduceCtorEq,Nat.reduceBEq,reduceLT])|(refine cI (d1) rfl rfl ?_)|(refine cM (d1) rfl rfl ?_)|(refine cI (d2) rfl rfl ?_)|(refine cM (d2) rfl rfl ?_)|(refine cI (h) rfl rfl ?_)|(refine cM (h) rfl rfl ?_)|(with_reducible refine cQ ?_ ?_; focus ((try simp only [List.length_append,List.length_cons,List.length_nil]); omega))|((first|apply cG|apply cH|apply cF)<;>intro h<;>try simp only [h]))
 all_goals rfl
theorem aH7 (a b:Int) (ha:gM a) (hb:gM b):Fn prog 198 [.int .i64 a,.int .i64 b] (fun rs=>rs=[.int .i64 (tO a b)]):=by
 have l1:=eT a (lS ha)
 have l2:=eT b (lS hb)
 have d1:=fR a ha.1 (lS ha)
 have d2:=fR b hb.1 (lS hb)
 have h:=yJ (110 :: (Lib.itoa a ++ 44 :: Lib.itoa b)) (by rw [eD]; simp only [List.length_cons,List.length_append]; omega)
 refine cW aQS [] ?_
 dsimp only [aQS,cT,c7]
 repeat' (first|(simp only [cJ,List.append_assoc,List.cons_append,List.nil_append,↓wA,↓wC,wB,cL,cK,reduceEqDiff,reduceAdd,reduceSub,reduceIte,reduceCtorEq,Nat.reduceBEq,reduceLT])|(refine cI (d1) rfl rfl ?_)|(refine cM (d1) rfl rfl ?_)|(refine cI (d2) rfl rfl ?_)|(refine cM (d2) rfl rfl ?_)|(refine cI (h) rfl rfl ?_)|(refine cM (h) rfl rfl ?_)|(with_reducible refine cQ ?_ ?_; focus ((try simp only [List.length_append,List.length_cons,List.length_nil]); omega))|((first|apply cG|apply cH|apply cF)<;>intro h<;>try simp only [h]))
 all_goals rfl
theorem aE1 (L:List (List UInt8)) (hl:L.length<=8) (hx:∀ s∈L,s.length<=100):Fn prog 164 [.sl false 1 (dl D.str L)] (fun rs=>rs=[.sl true 1 (dl iD (L.map j6))]):=by
 refine cW aRC [] ?_
 dsimp only [aRC,cT,c7]
 repeat' (first|(simp only [cJ,cO,↓wA,↓wC,wB,cL,cK,reduceEqDiff,reduceAdd,reduceSub,reduceIte,reduceCtorEq,Nat.reduceBEq,reduceLT])|((first|apply cG|apply cH|apply cF)<;>intro h<;>try simp only [h]))
 refine dR L.length (fun i:Nat=>⟨[(0,.d (.sl false 1 (dl D.str L))),(3,.own 0),(4,.d (.int .i64 i))],[.val (.sl true 1 (dl iD ((L.take i).map j6)))]⟩) (fun _=>True) (cU _ rfl ⟨⟨rfl,rfl⟩,⟨rfl,rfl⟩,⟨rfl,rfl⟩,trivial⟩) trivial ?_ ?_
 ·intro i hlt _ hd h0
  obtain ⟨s,hr⟩:=dQ hlt
  have h:=aIS s (hx s (List.mem_of_getElem? hr))
  have hsn:(L.take (i + 1)).map j6=(L.take i).map j6 ++ [j6 s]:=by rw [e7 hr,List.map_append]; rfl
  have hvl:((L.take i).map j6).length<=8:=by simp; omega
  repeat' (first|(simp only [cO,hd,h0,c6,Int.toNat_natCast,hr,Option.map_some,cJ,gD,↓wA,↓wC,wB,cL,cK,reduceEqDiff,reduceAdd,reduceSub,reduceIte,reduceCtorEq,Nat.reduceBEq,reduceLT])|(refine cI (h) rfl rfl ?_)|(refine cM (h) rfl rfl ?_)|(with_reducible refine cP ?_ ?_; focus (simp only [dW]; omega))|(with_reducible refine cQ ?_ ?_; focus omega)|(with_reducible refine cQ ?_ ?_; focus (simp; done))|((first|apply cG|apply cH|apply cF)<;>intro h<;>try simp only [h]))
  refine ⟨i + 1,?_,by omega,by omega⟩
  rw [hsn]
  exact (cU _ rfl ⟨⟨rfl,rfl⟩,⟨rfl,rfl⟩,⟨rfl,rfl⟩,trivial⟩)
 ·intro _ hd
  repeat' (first|(simp only [hd,cO,List.take_length,↓wA,↓wC,wB,cL,cK,reduceEqDiff,reduceAdd,reduceSub,reduceIte,reduceCtorEq,Nat.reduceBEq,reduceLT])|((first|apply cG|apply cH|apply cF)<;>intro h<;>try simp only [h]))
theorem aFV (L:List (List UInt8)) (hl:L.length<=8) (hx:∀ s∈L,s.length<=100):Fn prog 194 [.sl false 1 (dl D.str L)] (fun rs=>rs=[.sl true 1 (dl iD (L.map j6))]):=by
 refine cW aRO [] ?_
 dsimp only [aRO,cT,c7]
 repeat' (first|(simp only [cJ,cO,↓wA,↓wC,wB,cL,cK,reduceEqDiff,reduceAdd,reduceSub,reduceIte,reduceCtorEq,Nat.reduceBEq,reduceLT])|((first|apply cG|apply cH|apply cF)<;>intro h<;>try simp only [h]))
 refine qO [(3,1)] L.length (fun i:Nat=>⟨[(3,.own 0),(6,.d (.sl false 1 (dl D.str L))),(7,.d (.int .i64 L.length)),(8,.d (.int .i64 i))],[.val (.sl true 1 (dl iD ((L.take i).map j6)))]⟩) (fun _=>True) ⟨rfl,trivial⟩ ?_ trivial ?_ ?_
 ·exact (cU _ rfl ⟨⟨rfl,rfl⟩,⟨rfl,rfl⟩,⟨rfl,rfl⟩,⟨rfl,rfl⟩,trivial⟩)
 ·intro i hlt _ hd h0
  obtain ⟨s,hr⟩:=dQ hlt
  have h:=aEZ s (hx s (List.mem_of_getElem? hr))
  have hsn:(L.take (i + 1)).map j6=(L.take i).map j6 ++ [j6 s]:=by rw [e7 hr,List.map_append]; rfl
  have hvl:((L.take i).map j6).length<=8:=by simp; omega
  repeat' (first|(simp only [cO,hd,h0,c6,Int.toNat_natCast,hr,Option.map_some,cJ,gD,↓wA,↓wC,wB,cL,cK,reduceEqDiff,reduceAdd,reduceSub,reduceIte,reduceCtorEq,Nat.reduceBEq,reduceLT])|(refine cI (h) rfl rfl ?_)|(refine cM (h) rfl rfl ?_)|(with_reducible refine cP ?_ ?_; focus (simp only [dW]; omega))|(with_reducible refine cQ ?_ ?_; focus omega)|(with_reducible refine cQ ?_ ?_; focus (simp; done))|((first|apply cG|apply cH|apply cF)<;>intro h<;>try simp only [h]))
  refine ⟨i + 1,?_,by omega,by omega⟩
  rw [hsn]
  exact (cU _ rfl ⟨⟨rfl,rfl⟩,⟨rfl,rfl⟩,⟨rfl,rfl⟩,⟨rfl,rfl⟩,trivial⟩)
 ·intro _ hd
  repeat' (first|(simp only [hd,cO,List.take_length,↓wA,↓wC,wB,cL,cK,reduceEqDiff,reduceAdd,reduceSub,reduceIte,reduceCtorEq,Nat.reduceBEq,reduceLT])|((first|apply cG|apply cH|apply cF)<;>intro h<;>try simp only [h]))
theorem aFI (v:List Int) (hl:v.length<=1000) (hv:∀ n∈v,gM n):Fn prog 165 [.sl false 1 (dl iD v)] (fun rs=>rs=[.sl true 1 (dl iD (gC v))]):=by
 refine cW aRa [] ?_
 dsimp only [aRa,cT,c7]
 repeat' (first|(simp only [cJ,cO,↓wA,↓wC,wB,cL,cK,reduceEqDiff,reduceAdd,reduceSub,reduceIte,reduceCtorEq,Nat.reduceBEq,reduceLT])|((first|apply cG|apply cH|apply cF)<;>intro h<;>try simp only [h]))
 refine d5 (fun i:Nat=>⟨[(0,.d (.sl false 1 (dl iD v))),(3,.own 0),(4,.d (.int .i64 i))],[.val (.sl true 1 (dl iD (gC (v.take i))))]⟩) (fun i=>i % 2=0/\i<=v.length + 1) (fun i=>v.length + 2 - i) 0 (cU _ rfl ⟨⟨rfl,rfl⟩,⟨rfl,rfl⟩,⟨rfl,rfl⟩,trivial⟩) ⟨rfl,by omega⟩ ?_
 rintro i ⟨i1,i2⟩
 by_cases hlt:i < v.length
 ·obtain ⟨a,ha⟩:=dQ hlt
  have hA:=hv a (List.mem_of_getElem? ha)
  have hd:decide ((i:Int) < (v.length:Int))=true:=decide_eq_true (by omega)
  have h0:(0:Int)<=(i:Int):=by omega
  have hrl:=nJ (v.take i)
  rw [List.length_take,Nat.min_eq_left (by omega)] at hrl
  by_cases h2:i + 1 < v.length
  ·obtain ⟨b,hb⟩:=dQ h2
   have hB:=hv b (List.mem_of_getElem? hb)
   have hP:=aH7 a b hA hB
   have hsn:=aH4 i1 ha hb
   have hd2:decide ((i:Int) + 1 < (v.length:Int))=true:=decide_eq_true (by omega)
   have h02:(0:Int)<=(i:Int) + 1:=by omega
   have hcast:((i:Int) + 1).toNat=i + 1:=by omega
   repeat' (first|(simp only [cO,hd,h0,hd2,h02,hcast,c6,Int.toNat_natCast,ha,hb,Option.map_some,cJ,eJ,iD,gD,↓wA,↓wC,wB,cL,cK,reduceEqDiff,reduceAdd,reduceSub,reduceIte,reduceCtorEq,Nat.reduceBEq,reduceLT])|(refine cI (hP) rfl rfl ?_)|(refine cM (hP) rfl rfl ?_)|(refine dL ?_)|(with_reducible refine cP ?_ ?_; focus (simp only [dW]; omega))|(with_reducible refine cQ ?_ ?_; focus omega)|(with_reducible refine cQ ?_ ?_; focus (simp; done))|((first|apply cG|apply cH|apply cF)<;>intro h<;>try simp only [h]))
   all_goals
    refine ⟨i + 2,?_,⟨by omega,by omega⟩,by omega⟩
    rw [hsn]
    exact (cU _ rfl ⟨⟨rfl,rfl⟩,⟨rfl,rfl⟩,⟨rfl,rfl⟩,trivial⟩)
  ·have hsn:=aH8 i1 ha (by omega)
   have hd2:decide ((i:Int) + 1 < (v.length:Int))=false:=decide_eq_false (by omega)
   repeat' (first|(simp only [cO,hd,h0,hd2,c6,Int.toNat_natCast,ha,Option.map_some,cJ,eJ,iD,gD,↓wA,↓wC,wB,cL,cK,reduceEqDiff,reduceAdd,reduceSub,reduceIte,reduceCtorEq,Nat.reduceBEq,reduceLT])|(refine dL ?_)|(with_reducible refine cP ?_ ?_; focus (simp only [dW]; omega))|(with_reducible refine cQ ?_ ?_; focus omega)|(with_reducible refine cQ ?_ ?_; focus (simp; done))|((first|apply cG|apply cH|apply cF)<;>intro h<;>try simp only [h]))
   all_goals
    refine ⟨i + 2,?_,⟨by omega,by omega⟩,by omega⟩
    rw [hsn]
    exact (cU _ rfl ⟨⟨rfl,rfl⟩,⟨rfl,rfl⟩,⟨rfl,rfl⟩,trivial⟩)
 ·have hd:decide ((i:Int) < (v.length:Int))=false:=decide_eq_false (by omega)
  have e:v.take i=v:=List.take_of_length_le (by omega)
  rw [e]
  repeat' (first|(simp only [cO,hd,↓wA,↓wC,wB,cL,cK,reduceEqDiff,reduceAdd,reduceSub,reduceIte,reduceCtorEq,Nat.reduceBEq,reduceLT])|((first|apply cG|apply cH|apply cF)<;>intro h<;>try simp only [h]))
def nH (v:List Int):Int:=if h:v.length<=1 then v.headD 0 else nH (gC v)
termination_by v.length
decreasing_by rw [nJ]; omega
theorem aD2 {v:List Int} {a:Int} (h:v.length<=1) (ha:v[0]?=some a):nH v=a:=by
 rw [nH,dif_pos h]
 cases v with
 | nil=>simp at ha
 | cons b r=>simpa using ha
theorem wY {v:List Int} (h:¬ v.length<=1):nH (gC v)=nH v:=by
 conv=>rhs; rw [nH,dif_neg h]
theorem aNc:Int.toNat 0=0:=rfl
theorem aUL:((0:Int)<=0)=True:=by simp
theorem aDH (L:List (List UInt8)):∀ n∈L.map j6,gM n:=by
 intro n hn
 obtain ⟨s,_,rfl⟩:=List.mem_map.1 hn
 exact aGm s
theorem aHF (L:List (List UInt8)) (hl:L.length<=8) (h1:1<=L.length) (hx:∀ s∈L,s.length<=100):Fn prog 125 [.sl false 1 (dl D.str L)] (fun rs=>rs=[.int .i64 (nH (L.map j6))]):=by
 have hL:=aE1 L hl hx
 refine cW aRB [] ?_
 dsimp only [aRB,cT,c7]
 repeat' (first|(simp only [cJ,↓wA,↓wC,wB,cL,cK,reduceEqDiff,reduceAdd,reduceSub,reduceIte,reduceCtorEq,Nat.reduceBEq,reduceLT])|(refine cI (hL) rfl rfl ?_)|(refine cM (hL) rfl rfl ?_)|((first|apply cG|apply cH|apply cF)<;>intro h<;>try simp only [h]))
 refine d5 (fun x:List Int=>⟨[(3,.d (.sl false 1 (dl iD x)))],[]⟩) (fun x=>nH x=nH (L.map j6)/\(∀ n∈x,gM n)/\1<=x.length/\x.length<=8) (fun x=>x.length) (L.map j6) ((aH6 0 rfl).trans (cU _ rfl ⟨⟨by simp only [w8,tU,D.unown,dM,↓wA,↓wC,wB,cL,cK,reduceEqDiff,reduceAdd,reduceSub,reduceIte,reduceCtorEq,Nat.reduceBEq,reduceLT],rfl⟩,trivial⟩)) ⟨rfl,aDH L,by simpa using h1,by simpa using hl⟩ ?_
 rintro x ⟨x1,x2,x3,x4⟩
 have hR:=aFI x (by omega) x2
 have hrl:=nJ x
 have hoA:([D.sl true 1 (dl iD (gC x))].all D.allOwn)=true:=by simp [D.allOwn,mT vL]
 by_cases hgt:1 < x.length
 ·have hd:decide ((1:Int) < (x.length:Int))=true:=decide_eq_true (by omega)
  repeat' (first|(simp only [cO,hd,cJ,↓wA,↓wC,wB,cL,cK,reduceEqDiff,reduceAdd,reduceSub,reduceIte,reduceCtorEq,Nat.reduceBEq,reduceLT])|(refine cI hR rfl rfl ?_)|((first|apply cG|apply cH|apply cF)<;>intro h<;>try simp only [h]))
  refine ⟨gC x,((aH6 0 rfl).trans (cU _ rfl ⟨⟨by simp only [w8,tU,D.unown,dM,↓wA,↓wC,wB,cL,cK,reduceEqDiff,reduceAdd,reduceSub,reduceIte,reduceCtorEq,Nat.reduceBEq,reduceLT],rfl⟩,trivial⟩)),⟨(wY (by omega)).trans x1,u7 x x2,by omega,by omega⟩,by omega⟩
 ·have hd:decide ((1:Int) < (x.length:Int))=false:=decide_eq_false (by omega)
  obtain ⟨a,ha⟩:=dQ (show 0 < x.length by omega)
  have hro:=aD2 (by omega) ha
  repeat' (first|(simp only [cO,hd,cJ,c6,aNc,aUL,cY,ha,Option.map_some,eJ,iD,↓wA,↓wC,wB,cL,cK,reduceEqDiff,reduceAdd,reduceSub,reduceIte,reduceCtorEq,Nat.reduceBEq,reduceLT])|((first|apply cG|apply cH|apply cF)<;>intro h<;>try simp only [h]))
  all_goals rw [<- x1,hro]
def vG:Prop:=∀ v:List Int,v.length<=1000->(∀ n∈v,gM n)->Fn prog 195 [.sl false 1 (dl iD v)] (fun rs=>rs=[.sl true 1 (dl iD (gC v))])
theorem aJ3 (hRd:vG) (L:List (List UInt8)) (hl:L.length<=1048576):Fn prog 155 [.sl false 1 (dl D.str L)] (fun rs=>rs=if eN L=true then [.int .i64 (nH (L.map j6)),.bool true] else [.int .i64 0,.bool false]):=by
 have hV:=aAN L hl
 cases hv:eN L with
 | false =>
  rw [hv] at hV
  refine cW aJO [] ?_
  dsimp only [aJO,cT,c7]
  repeat' (first|(simp only [cJ,↓wA,↓wC,wB,cL,cK,reduceEqDiff,reduceAdd,reduceSub,reduceIte,reduceCtorEq,Nat.reduceBEq,reduceLT])|(refine cI (hV) rfl rfl ?_)|(refine cM (hV) rfl rfl ?_)|((first|apply cG|apply cH|apply cF)<;>intro h<;>try simp only [h]))
  all_goals simp
 | true =>
  rw [hv] at hV
  simp only [eN,Bool.and_eq_true,dC,decide_eq_true_eq,List.all_eq_true] at hv
  obtain ⟨⟨h1,h8⟩,hx⟩:=hv
  have hx':∀ s∈L,s.length<=100:=fun s hs=>by
   have:=hx s hs
   simp only [kJ,Bool.and_eq_true] at this
   have:=xI s.length this.1
   omega
  have hL:=aFV L (by omega) hx'
  refine cW aJO [] ?_
  dsimp only [aJO,cT,c7]
  repeat' (first|(simp only [cJ,↓wA,↓wC,wB,cL,cK,reduceEqDiff,reduceAdd,reduceSub,reduceIte,reduceCtorEq,Nat.reduceBEq,reduceLT])|(refine cI (hV) rfl rfl ?_)|(refine cM (hV) rfl rfl ?_)|(refine cI (hL) rfl rfl ?_)|(refine cM (hL) rfl rfl ?_)|((first|apply cG|apply cH|apply cF)<;>intro h<;>try simp only [h]))
  refine d5 (fun x:List Int=>⟨[(4,.d (.sl false 1 (dl iD x)))],[]⟩) (fun x=>nH x=nH (L.map j6)/\(∀ n∈x,gM n)/\1<=x.length/\x.length<=8) (fun x=>x.length) (L.map j6) ((aH6 0 rfl).trans (cU _ rfl ⟨⟨by simp only [w8,tU,D.unown,dM,↓wA,↓wC,wB,cL,cK,reduceEqDiff,reduceAdd,reduceSub,reduceIte,reduceCtorEq,Nat.reduceBEq,reduceLT],rfl⟩,trivial⟩)) ⟨rfl,aDH L,by simp; omega,by simp; omega⟩ ?_
  rintro x ⟨x1,x2,x3,x4⟩
  have hR:=hRd x (by omega) x2
  have hrl:=nJ x
  have hoA:([D.sl true 1 (dl iD (gC x))].all D.allOwn)=true:=by simp [D.allOwn,mT vL]
  by_cases hgt:1 < x.length
  ·have hd:decide ((1:Int) < (x.length:Int))=true:=decide_eq_true (by omega)
   repeat' (first|(simp only [cO,hd,cJ,↓wA,↓wC,wB,cL,cK,reduceEqDiff,reduceAdd,reduceSub,reduceIte,reduceCtorEq,Nat.reduceBEq,reduceLT])|(refine cI hR rfl rfl ?_)|((first|apply cG|apply cH|apply cF)<;>intro h<;>try simp only [h]))
   refine ⟨gC x,((aH6 0 rfl).trans (cU _ rfl ⟨⟨by simp only [w8,tU,D.unown,dM,↓wA,↓wC,wB,cL,cK,reduceEqDiff,reduceAdd,reduceSub,reduceIte,reduceCtorEq,Nat.reduceBEq,reduceLT],rfl⟩,trivial⟩)),⟨(wY (by omega)).trans x1,u7 x x2,by omega,by omega⟩,by omega⟩
  ·have hd:decide ((1:Int) < (x.length:Int))=false:=decide_eq_false (by omega)
   obtain ⟨a,ha⟩:=dQ (show 0 < x.length by omega)
   have hro:=aD2 (by omega) ha
   repeat' (first|(simp only [cO,hd,cJ,c6,aNc,aUL,cY,ha,Option.map_some,eJ,iD,↓wA,↓wC,wB,cL,cK,reduceEqDiff,reduceAdd,reduceSub,reduceIte,reduceCtorEq,Nat.reduceBEq,reduceLT])|((first|apply cG|apply cH|apply cF)<;>intro h<;>try simp only [h]))
   all_goals rw [<- x1,hro]
def aD6 (o:Off):List D:=if dP o=true/\eN o.led=true then [.int .i64 (nH (o.led.map j6)),.bool true] else [.int .i64 0,.bool false]
theorem aF2 (hRd:vG) (o:Off) (ho:o.ok0):Fn prog 112 [o.s] (fun rs=>rs=aD6 o):=by
 have hV:=jV o ho
 have hR:=aJ3 hRd o.led ho.2.1
 unfold aD6
 cases hv:dP o with
 | false =>
  rw [hv] at hV
  refine cW aEl [] ?_
  dsimp only [aEl,cT,c7]
  repeat' (first|(simp only [aWv,aWw,↓dF,cJ,↓wA,↓wC,wB,cL,cK,reduceEqDiff,reduceAdd,reduceSub,reduceIte,reduceCtorEq,Nat.reduceBEq,reduceLT])|(refine cI hV (by simp [dB,dI,aWu]) rfl ?_)|((first|apply cG|apply cH|apply cF)<;>intro h<;>try simp only [h]))
  all_goals simp
 | true =>
  rw [hv] at hV
  cases hl:eN o.led with
  | true =>
   rw [hl,if_pos rfl] at hR
   refine cW aEl [] ?_
   dsimp only [aEl,cT,c7]
   repeat' (first|(simp only [aWv,aWw,↓dF,cJ,jG,jH,cR,↓wA,↓wC,wB,cL,cK,reduceEqDiff,reduceAdd,reduceSub,reduceIte,reduceCtorEq,Nat.reduceBEq,reduceLT])|(refine cI (hR) rfl rfl ?_)|(refine cM (hR) rfl rfl ?_)|(refine cI hV (by simp [dB,dI,aWu]) rfl ?_)|((first|apply cG|apply cH|apply cF)<;>intro h<;>try simp only [h]))
   all_goals simp
  | false =>
   rw [hl,if_neg (by simp)] at hR
   refine cW aEl [] ?_
   dsimp only [aEl,cT,c7]
   repeat' (first|(simp only [aWv,aWw,↓dF,cJ,jG,jH,cR,↓wA,↓wC,wB,cL,cK,reduceEqDiff,reduceAdd,reduceSub,reduceIte,reduceCtorEq,Nat.reduceBEq,reduceLT])|(refine cI (hR) rfl rfl ?_)|(refine cM (hR) rfl rfl ?_)|(refine cI hV (by simp [dB,dI,aWu]) rfl ?_)|((first|apply cG|apply cH|apply cF)<;>intro h<;>try simp only [h]))
   all_goals simp
theorem aKm {o:Off} (h:dP o=true):decide ((0:Int) < (o.led.length:Int))=eN o.led:=by
 simp only [dP,sA,aCm,Bool.and_eq_true,Bool.or_eq_true,Bool.not_eq_true'] at h
 rcases h.1.2 with h|h
 ·rw [h]
  have:¬ (0:Int) < (o.led.length:Int):=of_decide_eq_false h
  have e:o.led.length=0:=by omega
  symm
  simp [eN,dC,e]
 ·rw [h]
  simp only [eN,Bool.and_eq_true,dC,decide_eq_true_eq] at h
  exact decide_eq_true (by omega)
theorem aFE (o:Off) (ho:o.ok0):Fn prog 93 [o.s] (fun rs=>rs=aD6 o):=by
 have hV:=f8 o ho
 unfold aD6
 cases hv:dP o with
 | false =>
  rw [hv] at hV
  refine cW aJY [] ?_
  dsimp only [aJY,cT,c7]
  repeat' (first|(simp only [aWv,aWw,↓dF,cJ,↓wA,↓wC,wB,cL,cK,reduceEqDiff,reduceAdd,reduceSub,reduceIte,reduceCtorEq,Nat.reduceBEq,reduceLT])|(refine cI hV (by simp [dB,dI,aWu]) rfl ?_)|((first|apply cG|apply cH|apply cF)<;>intro h<;>try simp only [h]))
  all_goals simp
 | true =>
  rw [hv] at hV
  have hq:=aKm hv
  cases hl:eN o.led with
  | true =>
   rw [hl] at hq
   have hq':=of_decide_eq_true hq
   have h0:decide ((o.led.length:Int)=0)=false:=decide_eq_false (by omega)
   have hx:∀ s∈o.led,s.length<=100:=fun s hs=>by
    simp only [eN,Bool.and_eq_true,dC,decide_eq_true_eq,List.all_eq_true] at hl
    have:=hl.2 s hs
    simp only [kJ,Bool.and_eq_true] at this
    have:=xI s.length this.1
    omega
   have hR:=aHF o.led (by simp only [eN,Bool.and_eq_true,dC,decide_eq_true_eq] at hl; omega) (by omega) hx
   refine cW aJY [] ?_
   dsimp only [aJY,cT,c7]
   repeat' (first|(simp only [h0,cO,aWv,aWw,↓dF,cJ,jG,jH,cR,↓wA,↓wC,wB,cL,cK,reduceEqDiff,reduceAdd,reduceSub,reduceIte,reduceCtorEq,Nat.reduceBEq,reduceLT])|(refine cI (hR) rfl rfl ?_)|(refine cM (hR) rfl rfl ?_)|(refine cI hV (by simp [dB,dI,aWu]) rfl ?_)|((first|apply cG|apply cH|apply cF)<;>intro h<;>try simp only [h]))
   all_goals simp
  | false =>
   rw [hl] at hq
   have hq':=of_decide_eq_false hq
   have h0:decide ((o.led.length:Int)=0)=true:=decide_eq_true (by omega)
   refine cW aJY [] ?_
   dsimp only [aJY,cT,c7]
   repeat' (first|(simp only [h0,cO,aWv,aWw,↓dF,cJ,jG,jH,cR,↓wA,↓wC,wB,cL,cK,reduceEqDiff,reduceAdd,reduceSub,reduceIte,reduceCtorEq,Nat.reduceBEq,reduceLT])|(refine cI hV (by simp [dB,dI,aWu]) rfl ?_)|((first|apply cG|apply cH|apply cF)<;>intro h<;>try simp only [h]))
   all_goals simp
end Go.Pe.Tryz
namespace Go.Proofs.ChkTryz
open Go.Proofs Go.RowKit Go.Shelf
attribute [local go_sem] Oper.semAt_some
def sE (n₀ Bs Bn:Nat) (W W':World):Prop:=Below n₀ W W'/\W'.heap[Bs]?=W.heap[Bs]?/\W'.heap[Bn]?=W.heap[Bn]?
theorem sE.refl (n₀ Bs Bn:Nat) (W:World):sE n₀ Bs Bn W W:=⟨Below.refl _ _,rfl,rfl⟩
theorem sE.trans {n₀ Bs Bn:Nat} {A B C:World} (h:sE n₀ Bs Bn A B) (k:sE n₀ Bs Bn B C):sE n₀ Bs Bn A C:=⟨h.1.trans k.1,k.2.1.trans h.2.1,k.2.2.trans h.2.2⟩
theorem sE.drew {n₀ Bs Bn:Nat} {A B:World} (h:sE n₀ Bs Bn A B):sE n₀ Bs Bn A B.drew:=⟨h.1.drew,h.2.1,h.2.2⟩
abbrev Ix (len:Nat):={ k:Nat // 2 * k < len }
def enc (b off len:Nat) (k:Nat):Array Value:=#[.slice (some ⟨b,off + 2 * k,none⟩) (min 2 (len - 2 * k)) (min 2 (len - 2 * k))]
theorem aGi {β:Type} {B:Nat} {J:β->World->Prop} (h:AbidesFrom B J) {s:β} {W:World} (hs:J s W):J s W.drew :=
 h s W W.drew none hs ⟨rfl,rfl,rfl,Nat.le_refl _,fun _ _ _=>rfl⟩ (fun _ e=>by cases e)
set_option maxRecDepth 100000 in
set_option maxHeartbeats 4000000 in
theorem aKP (F:Fence) (n:Nat) (h7:F.fn 246) (hro:F.round=none) (hn:1<=n) (l Bs Bn n₀ b off len cap:Nat) (hcap:len<=cap) (hreach:len<=1048576) (hb:b < n₀) (J Jx:List (Ix len)->World->Prop) (hJ:∀ s W,J s W->J s W.drew)
  (hY:∀ pre x W,J pre W->pre.length < (len + 1) / 2->YieldAt F (n - 1) Tryz.prog l (enc b off len x.1) W fun e W' =>
   (e=.returned (.bool true)/\J (pre ++ [x]) W'/\sE n₀ Bs Bn W W')\/(e=.returned (.bool false)/\Jx (pre ++ [x]) W'))
  (W:World) (hBs:W.cell? ⟨Bs,0,none⟩=some (.slice (some ⟨b,off,none⟩) len cap)) (hBn:W.cell? ⟨Bn,0,none⟩=some (.int .i64 2)) (h0:J [] W) :
  CallsIn F n Tryz.prog 246 #[.func (.yield l) #[] #[],.pointer (some ⟨Bs,0,none⟩),.pointer (some ⟨Bn,0,none⟩)] W fun e W'=>(∃ v,e=.returned v) /\
   ((∃ ys:List (Ix len),ys.map (·.1)=List.range ((len + 1) / 2)/\J ys W')\/(∃ pre,Jx pre W')):=by
 refine callsIn_of_wp Tryz.func246 rfl h7 ?_ hro
 have hnt:Tryz.f246.ntmps=31:=rfl
 simp only [hnt,List.size_toArray,List.length_cons,List.length_nil,Nat.reduceAdd,Nat.reduceSub,Array.replicate_succ,Array.replicate_zero,List.push_toArray,List.append_toArray,List.nil_append,List.cons_append]
 gi_wp2
 gi_loopw [4] (fun i wr=>∃ k:Nat,2 * k<=len + 1/\i=.int .i64 (2 * k:Nat)/\(∃ ys:List (Ix len),ys.map (·.1)=List.range k/\J ys wr)/\sE n₀ Bs Bn W wr)
  (fun i _=>len + 2 - (intOf i).toNat)
 case atStart=>exact ⟨0,by omega,rfl,⟨[],rfl,h0⟩,sE.refl _ _ _ _⟩
 case round =>
  obtain ⟨k,hk,rfl,⟨ys,hys,hJs⟩,hnx,hs1,hs2⟩:=hrel
  have hBs':wr.cell? ⟨Bs,0,none⟩=some (.slice (some ⟨b,off,none⟩) len cap):=by unfold World.cell? at hBs ⊢; rw [hs1]; exact hBs
  have hBn':wr.cell? ⟨Bn,0,none⟩=some (.int .i64 2):=by unfold World.cell? at hBn ⊢; rw [hs2]; exact hBn
  by_cases hlt:2 * k < len
  ·obtain ⟨fn,tmps,assign,body,hy,hR⟩:=hY ys ⟨k,hlt⟩ wr.drew (hJ _ _ hJs) (by have:=congrArg List.length hys; simp at this; omega)
   have hBs3:∀ W3,sE n₀ Bs Bn wr.drew W3->W3.cell? ⟨Bs,0,none⟩=some (.slice (some ⟨b,off,none⟩) len cap):=fun W3 h=>by
    unfold World.cell? at hBs' ⊢; rw [h.2.1]; exact hBs'
   have hBn3:∀ W3,sE n₀ Bs Bn wr.drew W3->W3.cell? ⟨Bn,0,none⟩=some (.int .i64 2):=fun W3 h=>by
    unfold World.cell? at hBn' ⊢; rw [h.2.2]; exact hBn'
   have hKd:sE n₀ Bs Bn W wr.drew:=(sE.drew ⟨hnx,hs1,hs2⟩)
   gi_wp2
   gi_region
   all_goals gi_wp2
   all_goals
    first
     |(have e : (#[Value.slice (some { block := b, off := off + 2 * k }) ((2 * ↑k + (2 : Int)).toNat - 2 * k) ((2 * ↑k + (2 : Int)).toNat - 2 * k)] : Array Value) = enc b off len k := by
        unfold enc; rw [show (2 * ↑k + (2:Int)).toNat - 2 * k=min 2 (len - 2 * k) by omega]
       rw [e,hy])
     |(have e : (#[Value.slice (some { block := b, off := off + 2 * k }) ((2 * ↑k + min (2 : Int) ↑(len - 2 * k)).toNat - 2 * k) ((2 * ↑k + min (2 : Int) ↑(len - 2 * k)).toNat - 2 * k)] : Array Value) = enc b off len k := by
        unfold enc; rw [show (2 * ↑k + min (2:Int) ↑(len - 2 * k)).toNat - 2 * k=min 2 (len - 2 * k) by omega]
       rw [e,hy])
     |(have e : (#[Value.slice (some { block := b, off := off + 2 * k }) ((2 * ↑k + ↑(len - 2 * k) : Int).toNat - 2 * k) ((2 * ↑k + ↑(len - 2 * k) : Int).toNat - 2 * k)] : Array Value) = enc b off len k := by
        unfold enc; rw [show (2 * ↑k + ↑(len - 2 * k):Int).toNat - 2 * k=min 2 (len - 2 * k) by omega]
       rw [e,hy])
    gi_wp2
    refine hR.mono ?_
    rintro e W3 (⟨rfl,hJ3,hk3⟩|⟨rfl,hJx3⟩)
    ·have hb3:=hBn3 W3 hk3
     gi_wp2
     go_roundw
     case rel=>exact ⟨k + 1,by omega,by simp; omega,⟨ys ++ [⟨k,hlt⟩],by simp [hys,List.range_succ],hJ3⟩,hKd.trans hk3⟩
     case measure=>simp [intOf]; omega
    ·gi_wp2
     refine bodyPost_ret (results_none rfl _ _ _) rfl ?_
     exact ⟨⟨_,rfl⟩,.inr ⟨_,hJx3⟩⟩
  ·gi_wp2
   go_end0
   exact ⟨⟨_,rfl⟩,.inl ⟨ys,by rw [hys]; congr 1; omega,hJs⟩⟩
set_option maxRecDepth 100000 in
set_option maxHeartbeats 4000000 in
theorem aDu (F:Fence) (n:Nat) (h7:F.fn 246) (hro:F.round=none) (l Bs Bn:Nat) (a:Option Addr) (cap:Nat) (J:World->Prop) (W:World) (hBs:W.cell? ⟨Bs,0,none⟩=some (.slice a 0 cap)) (h0:J W) :
  CallsIn F n Tryz.prog 246 #[.func (.yield l) #[] #[],.pointer (some ⟨Bs,0,none⟩),.pointer (some ⟨Bn,0,none⟩)] W fun e W'=>(∃ v,e=.returned v)/\J W':=by
 refine callsIn_of_wp Tryz.func246 rfl h7 ?_ hro
 have hnt:Tryz.f246.ntmps=31:=rfl
 simp only [hnt,List.size_toArray,List.length_cons,List.length_nil,Nat.reduceAdd,Nat.reduceSub,Array.replicate_succ,Array.replicate_zero,List.push_toArray,List.append_toArray,List.nil_append,List.cons_append]
 gi_wp2
 gi_loopw [4] (fun i wr=>i=.int .i64 0/\wr=W) (fun _ _=>0)
 case atStart=>exact ⟨rfl,rfl⟩
 case round =>
  obtain ⟨rfl,rfl⟩:=hrel
  gi_wp2
  go_end0
  exact ⟨⟨_,rfl⟩,h0⟩
set_option maxRecDepth 100000 in
set_option maxHeartbeats 4000000 in
theorem aL8 (F:Fence) (n:Nat) (h5:F.fn 220) (hro:F.round=none) (a:Option Addr) (len cap:Nat) (w:World) :
  CallsIn F n Tryz.prog 220 #[.slice a len cap,.int .i64 2] w fun e w'=>e=.returned (.func (.func 246) #[] #[.pointer (some ⟨w.heap.size,0,none⟩),.pointer (some ⟨w.heap.size + 1,0,none⟩)]) /\
   w'=(w.alloc (.cells #[.slice a len cap] 84)).alloc (.cells #[.int .i64 2] 3):=by
 refine callsIn_of_wp Tryz.func220 rfl h5 ?_ hro
 have hnt:Tryz.f220.ntmps=9:=rfl
 simp only [hnt,List.size_toArray,List.length_cons,List.length_nil,Nat.reduceAdd,Nat.reduceSub,Array.replicate_succ,Array.replicate_zero,List.push_toArray,List.append_toArray,List.nil_append,List.cons_append]
 gi_wp2
 go_ret
 exact ⟨by simp,rfl⟩
theorem aHA (F:Fence) (n:Nat) (h7:F.fn 246) (hro:F.round=none) (hn:1<=n) (Bs Bn n₀ b off len cap:Nat) (a:Option Addr) (hreach:len<=1048576) (w:World)
  (ha:len=0\/(a=some ⟨b,off,none⟩/\len<=cap/\b < n₀)) (hBs:Bs < w.heap.size) (hBn:Bn < w.heap.size) (hcs:w.cell? ⟨Bs,0,none⟩=some (.slice a len cap)) (hcn:w.cell? ⟨Bn,0,none⟩=some (.int .i64 2)) :
  SeqStopsK F n Tryz.prog 246 #[.pointer (some ⟨Bs,0,none⟩),.pointer (some ⟨Bn,0,none⟩)] (fun x:Ix len=>enc b off len x.1) (sE n₀ Bs Bn) (fun ys=>ys.map (·.1)=List.range ((len + 1) / 2)) (fun _=>True) ((len + 1) / 2) w:=fun l J Jx W hW hJ _ hY h0=>by
 have hcs':=(hW.cell (p:=⟨Bs,0,none⟩) hBs).trans hcs
 have hcn':=(hW.cell (p:=⟨Bn,0,none⟩) hBn).trans hcn
 rcases ha with rfl|⟨rfl,hcap,hb⟩
 ·exact (aDu F n h7 hro l Bs Bn a cap (J []) W hcs' h0).mono fun e W' ⟨he,hj⟩=>⟨he,.inl ⟨[],rfl,hj⟩⟩
 ·exact (aKP F n h7 hro hn l Bs Bn n₀ b off len cap hcap hreach hb J Jx (fun s W h=>aGi hJ h) hY W hcs' hcn' h0).mono fun e W' ⟨he,hj⟩=>⟨he,hj.imp id fun ⟨pre,h⟩=>⟨pre,trivial,h⟩⟩
end Go.Proofs.ChkTryz
namespace Go.Pe.Tryz
open Nat (reduceEqDiff reduceAdd reduceSub reduceLT)
open Go Go.Proofs.Tryz
theorem aKd (out pr:List Int) (g:Int) (hg:(∃ a b,pr=[a,b]/\gM a/\gM b/\g=tO a b)\/pr=[g]) (ho:out.length<=1000000) :
  ∃ b,(Go.Proofs.Tryz.f195).body.bind mE=some b/\∀ (c:Ctx),c.G=prog->c.nn=(8,(Go.Proofs.Tryz.f195).ntmps)->∀ C a w,Rel c ⟨[(3,.ptr 0 0 []),(4,.d (.sl false 1 (dl iD pr)))],[.box (.sl true 1 (dl iD out))]⟩ C a w->∀ r n,b.wpIn (Fence.wide.inRound r) n prog.P (fun e a' w'=>∃ s' C',(e=.normal/\look s'.e 3=.ptr 0 0 []/\∃ x,s'.o=.box (.sl true 1 (dl iD (out ++ [g]))) :: x)/\Rel c s' C' a' w') a w:=by
 rcases hg with ⟨a,b,rfl,ha,hb,rfl⟩|rfl
 ·have hP:=aGs a b ha hb
  have i0:([a,b]:List Int)[(0:Int).toNat]?=some a:=rfl
  have i1:([a,b]:List Int)[(1:Int).toNat]?=some b:=rfl
  have d2:decide (((2:Nat):Int)=2)=true:=rfl
  refine aJi (ps:=[[0,1,0]]) aQN aRs (by rfl) (Q:=fun e s'=>e=.normal/\look s'.e 3=.ptr 0 0 []/\∃ x,s'.o=.box (.sl true 1 (dl iD (out ++ [tO a b]))) :: x) ?_
  unfold aNA
  simp only [cT,c7]
  repeat' (first|(simp only [cO,d2,↓wA,↓wC,wB,cL,cK,reduceEqDiff,reduceAdd,reduceSub,reduceIte,reduceCtorEq,Nat.reduceBEq,reduceLT])|((first|apply cG|apply cH|apply cF)<;>intro h<;>try simp only [h]))
  refine eI _ (e8 0 none [] (es:=1) (xs:=dl iD out) rfl rfl) fun v=>?_
  simp only [dY,↓wA,↓wC,wB,cL,cK,reduceEqDiff,reduceAdd,reduceSub,reduceIte,reduceCtorEq,Nat.reduceBEq,reduceLT]
  repeat' (first|(simp only [cO,c6,cJ,i0,i1,Option.map_some,eJ,iD,↓wA,↓wC,wB,cL,cK,reduceEqDiff,reduceAdd,reduceSub,reduceIte,reduceCtorEq,Nat.reduceBEq,reduceLT])|(refine cI (hP) rfl rfl ?_)|(refine cM (hP) rfl rfl ?_)|(refine dL ?_)|(refine cM hP rfl rfl ?_)|(with_reducible refine cQ ?_ ?_; focus omega)|((first|apply cG|apply cH|apply cF)<;>intro h<;>try simp only [h]))
  refine cQ (by simp) (cQ (by omega) ?_)
  rw [show (dl iD out).app (.cons (.int .i64 (tO a b)) .nil)=dl iD (out ++ [tO a b]) from iM (f:=iD) out _]
  exact ⟨_,rfl⟩
 ·have i0:([g]:List Int)[(0:Int).toNat]?=some g:=rfl
  have d2:decide (((1:Nat):Int)=2)=false:=rfl
  refine aJi (ps:=[[0,1,1]]) aQN aRs (by rfl) (Q:=fun e s'=>e=.normal/\look s'.e 3=.ptr 0 0 []/\∃ x,s'.o=.box (.sl true 1 (dl iD (out ++ [g]))) :: x) ?_
  unfold aNA
  simp only [cT,c7]
  repeat' (first|(simp only [cO,d2,↓wA,↓wC,wB,cL,cK,reduceEqDiff,reduceAdd,reduceSub,reduceIte,reduceCtorEq,Nat.reduceBEq,reduceLT])|((first|apply cG|apply cH|apply cF)<;>intro h<;>try simp only [h]))
  refine eI _ (e8 0 none [] (es:=1) (xs:=dl iD out) rfl rfl) fun v=>?_
  simp only [dY,↓wA,↓wC,wB,cL,cK,reduceEqDiff,reduceAdd,reduceSub,reduceIte,reduceCtorEq,Nat.reduceBEq,reduceLT]
  repeat' (first|(simp only [cO,c6,cJ,i0,Option.map_some,eJ,iD,↓wA,↓wC,wB,cL,cK,reduceEqDiff,reduceAdd,reduceSub,reduceIte,reduceCtorEq,Nat.reduceBEq,reduceLT])|(refine dL ?_)|(with_reducible refine cQ ?_ ?_; focus omega)|((first|apply cG|apply cH|apply cF)<;>intro h<;>try simp only [h]))
  refine cQ (by simp) (cQ (by omega) ?_)
  rw [show (dl iD out).app (.cons (.int .i64 g) .nil)=dl iD (out ++ [g]) from iM (f:=iD) out _]
  exact ⟨_,rfl⟩
end Go.Pe.Tryz
namespace Go.Pe.Tryz
open Nat (reduceEqDiff reduceAdd reduceSub reduceLT)
open Go Go.RowKit Go.Shelf Go.Proofs.ChkTryz
attribute [local go_sem] Oper.semAt_some
theorem aBE {w:World} {M:Nat->Prop}:∀ v:List Int,(dl iD v).rep w M (v.map (Value.int .i64)) []
 | []=>⟨rfl,rfl⟩
 | n :: v=>⟨[.int .i64 n],_,[],[],rfl,rfl,⟨rfl,rfl⟩,aBE v⟩
theorem tC {w:World} {M:Nat->Prop}:∀ (v:List Int) (cs:List Value) (fp:List Nat),(dl iD v).rep w M cs fp->cs=v.map (Value.int .i64)/\fp=[]
 | [],cs,fp,h=>h
 | n :: v,cs,fp,h=>by
  obtain ⟨c1,c2,f1,f2,rfl,rfl,⟨rfl,rfl⟩,h2⟩:=h
  obtain ⟨rfl,rfl⟩:=tC v c2 f2 h2
  exact ⟨rfl,rfl⟩
theorem aCT:∀ v:List Int,(dl iD v).isL 1
 | []=>trivial
 | n :: v=>⟨rfl,aCT v⟩
def SlI (W:World) (u:Value) (out:List Int) (fp:List Nat):Prop :=
 (∃ a,u=.slice a 0 0/\out=[]/\fp=[])\/∃ g c,u=.slice (some ⟨g,0,none⟩) out.length c/\out.length<=c/\g7 W g c (out.map (Value.int .i64))/\fp=[g]
theorem SlI.rep {W:World} {M:Nat->Prop} {u:Value} {out:List Int} {fp:List Nat} (h:SlI W u out fp):(D.sl true 1 (dl iD out)).rep W M [u] fp:=by
 rcases h with ⟨a,rfl,rfl,rfl⟩|⟨g,c,rfl,hc,hr,rfl⟩
 ·exact ⟨trivial,a,0,[],[],rfl,Nat.le_refl _,⟨rfl,rfl⟩,by simp⟩
 ·refine ⟨aCT out,_,c,_,[],by rw [cO],by rw [cO]; exact hc,aBE out,?_⟩
  simp only [if_true]
  exact .inr ⟨g,rfl,⟨by rw [Nat.mul_one]; exact hr,fun h=>absurd rfl h⟩,rfl⟩
theorem aW1 {W:World} {M:Nat->Prop} {cs:List Value} {out:List Int} {fp:List Nat} (h:(D.sl true 1 (dl iD out)).rep W M cs fp):∃ u,cs=[u]/\SlI W u out fp:=by
 obtain ⟨_,a,c,ds,fps,rfl,hc,h3,h4⟩:=h
 obtain ⟨rfl,rfl⟩:=tC _ _ _ h3
 rw [cO] at hc ⊢
 refine ⟨_,rfl,?_⟩
 simp only [if_true] at h4
 rcases h4 with ⟨rfl,_,rfl⟩|⟨g,rfl,hr,rfl⟩
 ·have e:out=[]:=List.length_eq_zero_iff.1 (by omega)
  subst e
  exact .inl ⟨a,rfl,rfl,rfl⟩
 ·rw [Nat.mul_one] at hr
  have hr:=hr.1
  exact .inr ⟨g,c,rfl,hc,hr,rfl⟩
theorem aCE {W:World} {g n:Nat} {ds:List Value} (h:g7 W g n ds):∃ o:Obj,W.heap[g]?=some o/\o.isCells=true:=by
 obtain ⟨cur,E,⟨fz,h1,_⟩,_⟩:=h
 exact ⟨_,h1,rfl⟩
theorem SlI.row {W:World} {u:Value} {out:List Int} {fp:List Nat} (h:SlI W u out fp):∀ b∈fp,∃ o:Obj,W.heap[b]?=some o/\o.isCells=true:=by
 rcases h with ⟨a,rfl,rfl,rfl⟩|⟨g,c,rfl,hc,hr,rfl⟩
 ·intro b hb; cases hb
 ·intro b hb; rw [List.mem_singleton.1 hb]; exact aCE hr
theorem SlI.keep {W W':World} {u:Value} {out:List Int} {fp:List Nat} (h:SlI W u out fp) (hk:∀ b∈fp,W'.heap[b]?=W.heap[b]?):SlI W' u out fp:=by
 rcases h with ⟨a,rfl,rfl,rfl⟩|⟨g,c,rfl,hc,hr,rfl⟩
 ·exact .inl ⟨a,rfl,rfl,rfl⟩
 ·exact .inr ⟨g,c,rfl,hc,hr.frame (hk g (by simp)),rfl⟩
def aA0 (n0 B:Nat) (W:World) (out:List Int):Prop:=∃ u fp,g7 W B 1 [u]/\SlI W u out fp/\B ∉ fp/\∀ b∈fp,n0<=b
theorem aA0.kept {n0 B:Nat} {W W':World} {out:List Int} {row:Option Nat} (h:aA0 n0 B W out) (hg:W.grownBy W' row) (hr:∀ r,row=some r->∃ o:Obj,W.heap[r]?=some o/\o.isCells=false):aA0 n0 B W' out:=by
 obtain ⟨u,fp,h1,h2,h3,h4⟩:=h
 have key:∀ b:Nat,(∃ o:Obj,W.heap[b]?=some o/\o.isCells=true)->W'.heap[b]?=W.heap[b]?:=by
  rintro b ⟨o,hb,ho⟩
  refine hg.block b (Array.getElem?_eq_some_iff.1 hb).1 fun e=>?_
  obtain ⟨o',hb',ho'⟩:=hr b e.symm
  rw [hb] at hb'
  injection hb' with hb'
  rw [<- hb',ho] at ho'
  cases ho'
 exact ⟨u,fp,h1.frame (key B (aCE h1)),h2.keep fun b hb=>key b (h2.row b hb),h3,h4⟩
theorem aA0.own (n0 B:Nat) {β:Type} (f:β->List Int):Own (fun s W=>aA0 n0 B W (f s)):=fun s X Y row h hg hr=>aA0.kept h hg hr
theorem aFn (oc:OC):fC [oc]=oc.fp:=by simp [fC]
theorem aLE (w W:World) (M:Nat->Prop) (hgl:GOK prog w M) (n0 B b off:Nat) (out pr:List Int) (g:Int) (tm:Array Value) (htm:tm.size=(Go.Proofs.Tryz.f195).ntmps)
  (h3:tm.getD 3 Go.undef=.pointer (some ⟨B,0,none⟩)) (h4:tm.getD 4 Go.undef=.slice (some ⟨b,off,none⟩) pr.length pr.length) (hprl:0 < pr.length)
  (hc:∀ j u,pr[j]?=some u->W.cell? ⟨b,off + j,none⟩=some (.int .i64 u)) (hbw:b < w.heap.size) (hBw:w.heap.size<=B) (hn0:w.heap.size<=n0) (hn1:n0<=W.heap.size) (hB:aA0 n0 B W out) (hbel:Below w.heap.size w W)
  (hg:(∃ x y,pr=[x,y]/\gM x/\gM y/\g=tO x y)\/pr=[g]) (ho:out.length<=1000000) (r n:Nat) :
  ∃ bd,(Go.Proofs.Tryz.f195).body.bind mE=some bd/\bd.wpIn (Fence.wide.inRound r) n Go.Proofs.Tryz.prog (fun e a' W'=>e=.normal/\aA0 n0 B W' (out ++ [g])/\W'.os=W.os/\W'.tape=W.tape/\W'.output=W.output/\W.heap.size<=W'.heap.size /\
   (∀ k,k < W.heap.size->k < n0->k≠B->W'.heap[k]?=W.heap[k]?)/\(∀ (k:Nat) (o:Obj),W.heap[k]?=some o->o.isCells=false->W'.heap[k]?=some o)) { tmps:=tm,defers:=[] } W:=by
 obtain ⟨bd,hbd,H⟩:=aKd out pr g hg ho
 refine ⟨bd,hbd,?_⟩
 obtain ⟨u,fp,q1,q2,q3,q4⟩:=hB
 have hfpl:∀ k∈B :: fp,k < W.heap.size:=fun k hk=>by
  rcases List.mem_cons.1 hk with rfl|hk
  ·exact q1.lt
  ·obtain ⟨o,h,_⟩:=q2.row k hk
   exact (Array.getElem?_eq_some_iff.1 h).1
 have hnd:(B :: fp).Nodup:=by
  rcases q2 with ⟨_,_,_,rfl⟩|⟨_,_,_,_,_,rfl⟩
  ·simp
  ·exact List.nodup_cons.2 ⟨q3,by simp⟩
 have hge:∀ k∈B :: fp,w.heap.size<=k:=fun k hk=>by
  rcases List.mem_cons.1 hk with rfl|hk
  ·exact hBw
  ·have:=q4 k hk; omega
 let c:Ctx:={ G:=prog,n:=(Go.Proofs.Tryz.f195).ntmps,w0:=W,M0:=fun _=>False,g0:=B :: fp,lo:=8,fx:=fun t=>tm.getD t Go.undef }
 let oc:OC:={ v:=Go.undef,blk:=B,fp:=B :: fp }
 have hMs:∀ k,Ms c [oc] k↔k∈B :: fp:=fun k=>by simp [Ms,fC,c,oc]
 have hrel:Rel c ⟨[(3,.ptr 0 0 []),(4,.d (.sl false 1 (dl iD pr)))],[.box (.sl true 1 (dl iD out))]⟩ [oc] { tmps:=tm,defers:=[] } W:=by
  refine ⟨htm,rfl,fun t=>?_,?_,fun t _=>rfl⟩
  ·simp only [look]
   by_cases e3:3=t
   ·subst e3
    simp only [if_true]
    exact ⟨oc,rfl,h3⟩
   ·simp only [e3,if_false]
    by_cases e4:4=t
    ·subst e4
     simp only [if_true]
     refine ⟨[.slice (some ⟨b,off,none⟩) pr.length pr.length],⟨aCT pr,_,pr.length,_,[],by rw [cO],by rw [cO]; exact Nat.le_refl _,aBE pr,?_⟩,h4⟩
     simp only [Bool.false_eq_true,if_false]
     refine ⟨trivial,trivial,.inr ⟨_,rfl,.inr ⟨?_,?_,?_⟩⟩⟩
     ·exact Nat.lt_of_lt_of_le hbw hbel.size
     ·intro h
      have:=hge b ((hMs b).1 h)
      omega
     ·intro j x hx
      rw [Addr.add_lit]
      rw [List.getElem?_map] at hx
      obtain ⟨y,hy,rfl⟩:=Option.map_eq_some_iff.1 hx
      exact hc j y hy
    ·simp only [e4,if_false]
     trivial
  ·refine ⟨rfl,?_,?_,?_,?_,?_,?_,rfl,rfl,rfl,Nat.le_refl _,fun _ _ _=>rfl,fun k h=>h.elim,?_⟩
   ·intro k ob oc' h1 h2
    cases k with
    | succ k=>simp at h1
    | zero =>
     simp only [List.getElem?_cons_zero,Option.some.injEq] at h1 h2
     subst h1 h2
     exact ⟨[u],fp,q1,q2.rep,rfl⟩
   ·intro q k v h
    cases q<;>simp at h
   ·rw [aFn]; exact hnd
   ·rw [aFn]; exact hfpl
   ·intro k _ h; exact h
   ·intro k hk; rw [aFn] at hk; exact .inr hk
   ·obtain ⟨w1,f1,f2,f3⟩:=hgl
    refine ⟨w1,f1,Nat.le_trans f2 hbel.size,fun k hk=>⟨fun h=>?_,?_⟩⟩
    ·have:=hge k ((hMs k).1 h); omega
    ·rw [hbel.block k (by omega)]; exact (f3 k hk).2
 refine wpIn_mono (H c rfl rfl [oc] _ W hrel r n) ?_
 rintro e a' W' ⟨s',C',⟨rfl,hl3,x,hx⟩,hr'⟩
 refine ⟨rfl,?_,hr'.wd.os,hr'.wd.tape,hr'.wd.output,hr'.wd.size,?_,?_⟩
 ·have hv:=hr'.env 3
  rw [hl3] at hv
  obtain ⟨oc',g1,g2⟩:=hv
  have hfx:=hr'.fix 3 (show 3 < 8 by decide)
  rw [hfx] at g2
  have e:=h3.symm.trans g2
  simp only [Value.pointer.injEq,Option.some.injEq,Addr.mk.injEq,and_true] at e
  obtain ⟨cs,fps,k1,k2,k3⟩:=hr'.wd.obs 0 _ oc' (by rw [hx]; rfl) g1
  obtain ⟨u',rfl,k4⟩:=aW1 k2
  rw [<- e] at k1 k3
  have hmem:∀ k∈fps,k∈fC C':=fun k hk=>dA.2 ⟨0,oc',g1,by rw [k3]; exact List.mem_cons_of_mem _ hk⟩
  have hnd':=(dS.1 hr'.wd.nodup).1 0 oc' g1
  rw [k3] at hnd'
  refine ⟨u',fps,k1,k4,(List.nodup_cons.1 hnd').1,fun k hk=>?_⟩
  rcases hr'.wd.mine k (hmem k hk) with h|h
  ·exact Nat.le_trans hn1 h
  ·rcases List.mem_cons.1 h with h|h
   ·rw [h] at hk; exact absurd hk (List.nodup_cons.1 hnd').1
   ·exact q4 k h
 ·intro k hk hkn hkB
  refine hr'.wd.kept k hk fun h=>?_
  rcases List.mem_cons.1 h with h|h
  ·exact hkB h
  ·have:=q4 k h; omega
 ·intro k o hk ho
  rw [<- hk]
  refine hr'.wd.kept k (Array.getElem?_eq_some_iff.1 hk).1 fun h=>?_
  have:∃ o:Obj,W.heap[k]?=some o/\o.isCells=true:=by
   rcases List.mem_cons.1 h with h|h
   ·rw [h]; exact aCE q1
   ·exact q2.row k h
  obtain ⟨o',h1,h2⟩:=this
  rw [hk] at h1
  injection h1 with h1
  rw [h1,h2] at ho
  cases ho
def gR (v:List Int) (k:Nat):Int:=match v[2 * k]?,v[2 * k + 1]? with
 | some a,some b=>tO a b
 | some a,none=>a
 | _,_=>0
theorem aQf (v:List Int) (a b:Int) (k:Nat):gR (a :: b :: v) (k + 1)=gR v k:=by
 unfold gR
 rw [show 2 * (k + 1)=2 * k + 1 + 1 by omega,List.getElem?_cons_succ,List.getElem?_cons_succ,List.getElem?_cons_succ,List.getElem?_cons_succ]
theorem aEA:∀ v:List Int,(List.range ((v.length + 1) / 2)).map (gR v)=gC v
 | []=>rfl
 | [a]=>by simp [gR,gC]
 | a :: b :: v=>by
  have ih:=aEA v
  have e:((a :: b :: v).length + 1) / 2=(v.length + 1) / 2 + 1:=by simp only [List.length_cons]; omega
  rw [e,List.range_succ_eq_map,List.map_cons,List.map_map]
  have e2:(gR (a :: b :: v) ∘ Nat.succ)=gR v:=by
   funext k
   exact aQf v a b k
  rw [e2,ih]
  rfl
theorem aTV (v:List Int) (hv:∀ n∈v,gM n) (k:Nat) (hk:2 * k < v.length):∃ pr:List Int,pr.length=min 2 (v.length - 2 * k)/\(∀ j u,pr[j]?=some u->v[2 * k + j]?=some u)/\((∃ x y,pr=[x,y]/\gM x/\gM y/\gR v k=tO x y)\/pr=[gR v k]):=by
 obtain ⟨a,ha⟩:=dQ hk
 by_cases h2:2 * k + 1 < v.length
 ·obtain ⟨b,hb⟩:=dQ h2
  refine ⟨[a,b],by simp; omega,fun j u hj=>?_,.inl ⟨a,b,rfl,hv a (List.mem_of_getElem? ha),hv b (List.mem_of_getElem? hb),by unfold gR; rw [ha,hb]⟩⟩
  match j,hj with
  | 0,hj=>simp at hj; rw [<- hj]; exact ha
  | 1,hj=>simp at hj; rw [<- hj]; exact hb
  | j + 2,hj=>simp at hj
 ·have hb:v[2 * k + 1]?=none:=List.getElem?_eq_none (by omega)
  have hg:gR v k=a:=by unfold gR; rw [ha,hb]
  refine ⟨[a],by simp; omega,fun j u hj=>?_,.inr (by rw [hg])⟩
  match j,hj with
  | 0,hj=>simp at hj; rw [<- hj]; exact ha
  | j + 1,hj=>simp at hj
def uQ {len:Nat} (v:List Int) (pre:List (Ix len)):List Int:=pre.map fun x=>gR v x.1
theorem aKg {W:World} {B:Nat} {t:TypeId} {u:Value} (h:Boxed W B t u):g7 W B 1 [u]:=⟨#[u],t,⟨(0,0),h,.inl (Nat.le_refl _)⟩,rfl,rfl⟩
theorem aNs {W:World} {B:Nat} {u:Value} (h:g7 W B 1 [u]):W.cell? ⟨B,0,none⟩=some u:=by
 obtain ⟨cur,E,h1,h2,h3⟩:=h
 rw [h1.cell 0]
 have:cur.toList[0]?=some u:=by
  have e:=congrArg (fun l:List Value=>l[0]?) h3
  simp only [List.length_singleton,List.getElem?_cons_zero,List.getElem?_take] at e
  simpa using e
 simpa using this
set_option maxRecDepth 100000 in
set_option maxHeartbeats 4000000 in
theorem aK3 (v:List Int) (hv:∀ n∈v,gM n) (hl:v.length<=1000) (w:World) (M:Nat->Prop) (hgl:GOK prog w M) (a:Option Addr) (cap b off:Nat)
  (ha:v.length=0\/(a=some ⟨b,off,none⟩/\v.length<=cap/\b < w.heap.size/\∀ j u,v[j]?=some u->w.cell? ⟨b,off + j,none⟩=some (.int .i64 u))) :
  Calls Go.Proofs.Tryz.prog 195 #[.slice a v.length cap] w fun e W'=>∃ u fp,e=.returned u/\SlI W' u (gC v) fp/\(∀ k∈fp,w.heap.size<=k)/\lL w W':=by
 refine (callsIn_wide (n:=4)).1 ?_
 refine callsIn_of_wp_marks Go.Proofs.Tryz.func195 rfl trivial ?_ rfl
 have hnt:Go.Proofs.Tryz.f195.ntmps=28:=rfl
 simp only [hnt,List.size_toArray,List.length_cons,List.length_nil,Nat.reduceAdd,Nat.reduceSub,Array.replicate_succ,Array.replicate_zero,List.push_toArray,List.append_toArray,List.nil_append,List.cons_append]
 gi_wp2_with (refine ⟨trivial,?_⟩; gi_at_call 220; refine (aL8 Fence.wide (4 - 1) trivial rfl _ _ _ _).mono ?_; rintro e w' ⟨rfl,rfl⟩)
 obtain ⟨W0,hW0⟩:∃ W0,W0=((w.alloc (.cells #[.slice none 0 0] 84)).alloc (.cells #[.slice a v.length cap] 84)).alloc (.cells #[.int .i64 2] 3):=⟨_,rfl⟩
 have hsz:W0.heap.size=w.heap.size + 3:=by rw [hW0]; simp
 have hbel0:Below w.heap.size w W0:=by
  rw [hW0]
  exact (((Below.refl _ w).alloc (Nat.le_refl _) _).alloc (by simp) _).alloc (by simp; omega) _
 have bO:=Boxed.new w 84 (.slice none 0 0)
 have bS:=Boxed.new (w.alloc (.cells #[.slice none 0 0] 84)) 84 (.slice a v.length cap)
 have bN:=Boxed.new ((w.alloc (.cells #[.slice none 0 0] 84)).alloc (.cells #[.slice a v.length cap] 84)) 3 (.int .i64 2)
 rw [World.size_alloc] at bS
 rw [World.size_alloc,World.size_alloc] at bN
 have cS:W0.cell? ⟨w.heap.size + 1,0,none⟩=some (.slice a v.length cap):=by rw [hW0]; exact (bS.alloc _).cell
 have cN:W0.cell? ⟨w.heap.size + 1 + 1,0,none⟩=some (.int .i64 2):=by rw [hW0]; exact bN.cell
 have bI:aA0 (w.heap.size + 3) w.heap.size W0 []:=by
  rw [hW0]
  exact ⟨.slice none 0 0,[],aKg ((bO.alloc _).alloc _),.inl ⟨none,rfl,rfl,rfl⟩,by simp,by simp⟩
 rw [<- hW0]
 refine wpIn_rangeFunc_ownF rfl (by decide) (gf:=246) (lb:=#[.pointer (some ⟨w.heap.size + 1,0,none⟩),.pointer (some ⟨w.heap.size + 1 + 1,0,none⟩)]) rfl trivial (Go.Proofs.enters_of Go.Proofs.Tryz.func246 (by kernel_rfl) rfl)
  (aHA Fence.wide (4 - 1) trivial rfl (by decide) (w.heap.size + 1) (w.heap.size + 1 + 1) w.heap.size b off v.length cap a (by omega) W0 (ha.imp id fun h=>⟨h.1,h.2.1,h.2.2.1⟩) (by omega) (by omega) cS cN)
  sE.trans ?kb (Below.refl _ _) (fun _=>rfl)
  (fun pre W=>aA0 (w.heap.size + 3) w.heap.size W (uQ v pre)/\Below w.heap.size w W/\w.heap.size + 3<=W.heap.size)
  (fun _ _ _=>False)
  (OwnFrom.and ((aA0.own (w.heap.size + 3) w.heap.size (uQ v)).from _) (OwnFrom.and (ownFrom_below (Nat.le_refl _) (by omega)) (fun s A B row hs hg hr=>Nat.le_trans hs hg.size)))
  (fun _ _ _ _ _ hs _ _=>hs)
  ⟨bI,hbel0,by omega⟩
  (fun x=>{ tmps:=#[.slice a v.length cap,undef,.slice none 0 0,.pointer (some ⟨w.heap.size,0,none⟩),.slice (some ⟨b,off + 2 * x.1,none⟩) (min 2 (v.length - 2 * x.1)) (min 2 (v.length - 2 * x.1)),.slice a v.length cap,.func (.func 246) #[] #[.pointer (some ⟨w.heap.size + 1,0,none⟩),.pointer (some ⟨w.heap.size + 1 + 1,0,none⟩)],.slice (some ⟨b,off + 2 * x.1,none⟩) (min 2 (v.length - 2 * x.1)) (min 2 (v.length - 2 * x.1)),undef,undef,undef,undef,undef,undef,undef,undef,undef,undef,undef,undef,undef,undef,undef,undef,undef,undef,undef,undef],defers:=[] }) ?assign ?body ?done ?stop
 case kb =>
  intro W l o o' hl h1 h2 h3
  refine ⟨belowK_b (w:=w) (Nat.le_refl _) W l o o' (by omega) h1 h2 h3,?_,?_⟩
  ·exact (World.putObj_heap_other (by omega))
  ·exact (World.putObj_heap_other (by omega))
 case assign =>
  intro l x W K hK
  simp only [enc]
  gi_wp2
  exact hK
 case body =>
  rintro l pre x W ⟨hB,hbel,hs3⟩ hlen
  obtain ⟨pr,hpl,hpg,hg⟩:=aTV v hv x.1 x.2
  rcases ha with h0|⟨rfl,hcap,hbw,hcell⟩
  ·have:=x.2; omega
  obtain ⟨bd,hbd,H⟩:=aLE w W M hgl (w.heap.size + 3) w.heap.size b (off + 2 * x.1) (uQ v pre) pr (gR v x.1)
   #[.slice (some ⟨b,off,none⟩) v.length cap,undef,.slice none 0 0,.pointer (some ⟨w.heap.size,0,none⟩),.slice (some ⟨b,off + 2 * x.1,none⟩) (min 2 (v.length - 2 * x.1)) (min 2 (v.length - 2 * x.1)),.slice (some ⟨b,off,none⟩) v.length cap,.func (.func 246) #[] #[.pointer (some ⟨w.heap.size + 1,0,none⟩),.pointer (some ⟨w.heap.size + 1 + 1,0,none⟩)],.slice (some ⟨b,off + 2 * x.1,none⟩) (min 2 (v.length - 2 * x.1)) (min 2 (v.length - 2 * x.1)),undef,undef,undef,undef,undef,undef,undef,undef,undef,undef,undef,undef,undef,undef,undef,undef,undef,undef,undef,undef]
   rfl rfl (by rw [hpl]; rfl) (by rw [hpl]; have:=x.2; omega)
   (fun j u hj=>by
    have h1:=hcell _ _ (hpg j u hj)
    rw [<- Nat.add_assoc] at h1
    exact (hbel.cell (p:=⟨b,off + 2 * x.1 + j,none⟩) hbw).trans h1)
   hbw (Nat.le_refl _) (by omega) hs3 hB hbel hg (by
    have:(uQ v pre).length=pre.length:=by simp [uQ]
    omega) l (4 - 1 - 1)
  have key:∀ bd',(Go.Proofs.Tryz.f195).body.bind mE=some bd'->bd'.wpIn (Fence.wide.inRound l) (4 - 1 - 1) Go.Proofs.Tryz.prog _ _ _:=fun bd' h=>by
   rw [hbd] at h
   injection h with h
   subst h
   exact wpIn_mono H (Q':=ownPostK (sE w.heap.size (w.heap.size + 1) (w.heap.size + 1 + 1)) (fun pre W=>aA0 (w.heap.size + 3) w.heap.size W (uQ v pre)/\Below w.heap.size w W/\w.heap.size + 3<=W.heap.size) (fun _ _ _=>False) (pre ++ [x]) W) (by
    rintro e a' W' ⟨rfl,h1,h2,h3,h4,h5,h6,h7⟩
    have hbW:Below w.heap.size W W':=⟨h2,h3,h4,h5,fun k hk=>h6 k (by omega) (by omega) (by omega)⟩
    refine ⟨?_,⟨hbW,h6 _ (by omega) (by omega) (by omega),h6 _ (by omega) (by omega) (by omega)⟩,?_,hbel.trans hbW,by omega⟩
    ·exact ⟨h5,h7⟩
    ·have e:uQ v (pre ++ [x])=uQ v pre ++ [gR v x.1]:=by simp [uQ]
     rw [e]; exact h1)
  exact key _ rfl
 case done =>
  rintro D ys W hD hS ⟨⟨u,fp,q1,q2,q3,q4⟩,hbel,_⟩ hK
  have hcB:=aNs q1
  have eO:uQ v ys=gC v:=by
   rw [<- aEA]
   unfold uQ
   have:ys.map (fun x=>gR v x.1)=(ys.map (·.1)).map (gR v):=by rw [List.map_map]; rfl
   rw [this,hS]
  rw [eO] at q2
  gi_wp2
  refine ⟨by simp,.inl ⟨_,_,rfl,run_takeDeferred hK,?_⟩⟩
  refine ⟨_,results_tmp rfl _ _ _,u,fp,rfl,?_,fun k hk=>by have:=q4 k hk; omega,?_⟩
  ·refine q2.keep fun k hk=>?_
   obtain ⟨o,h1,h2⟩:=q2.row k hk
   refine World.putObj_heap_other fun e=>?_
   subst e
   rw [hK] at h1
   injection h1 with h1
   rw [<- h1] at h2
   cases h2
  ·exact hbel.trans (belowK_b (w:=w) (Nat.le_refl _) W D _ _ (by omega) hK rfl rfl)
 case stop =>
  rintro D c pre W _ _ h _
  exact h.elim
theorem aHi:vG:=by
 intro v hl hv M vs w hM hG hr
 obtain ⟨cs,us,f1,f2,rfl,e,h1,rfl,rfl⟩:=hr
 obtain ⟨rfl,_⟩:=List.append_eq_nil_iff.1 e.symm
 obtain ⟨_,a,cap,ds,fps,rfl,hc,h3,h4⟩:=h1
 obtain ⟨rfl,_⟩:=tC _ _ _ h3
 simp only [Bool.false_eq_true,if_false] at h4
 rw [cO] at hc h4 ⊢
 have hcall:∀ (b off:Nat),(v.length=0\/(a=some ⟨b,off,none⟩/\v.length<=cap/\b < w.heap.size/\∀ j u,v[j]?=some u->w.cell? ⟨b,off + j,none⟩=some (.int .i64 u)))->Calls Go.Proofs.Tryz.prog 195 #[.slice a v.length cap] w fun e w'=>∃ rs us fp,e=.returned (rF us)/\rs=[.sl true 1 (dl iD (gC v))]/\eV w' (fun b=>M b\/b∈fp) rs us fp/\fp.Nodup/\(∀ b∈fp,w.heap.size<=b)/\lL w w':=by
  intro b off h
  refine (aK3 v hv hl w M hG a cap b off h).mono ?_
  rintro e w' ⟨u,fp,rfl,h1,h2,h3⟩
  refine ⟨_,[u],fp,rfl,rfl,⟨[u],[],fp,[],rfl,by simp,h1.rep,rfl,rfl⟩,?_,h2,h3⟩
  rcases h1 with ⟨_,_,_,rfl⟩|⟨_,_,_,_,_,rfl⟩<;>simp
 rcases h4.2.2 with h0|⟨ad,rfl,hH⟩
 ·exact hcall 0 0 (.inl h0)
 ·rcases hH with h0|⟨hb,_,hcell⟩
  ·refine hcall 0 0 (.inl ?_)
   simpa using congrArg List.length h0
  ·obtain ⟨b,off,sp⟩:=ad
   cases sp with
   | none =>
    refine hcall b off (.inr ⟨rfl,hc,hb,fun j u hj=>?_⟩)
    have:=hcell j (.int .i64 u) (by rw [List.getElem?_map,hj]; rfl)
    rwa [Addr.add_lit] at this
   | some k =>
    by_cases h0:v.length=0
    ·exact hcall 0 0 (.inl h0)
    ·exfalso
     obtain ⟨u,hu⟩:=dQ (show 0 < v.length by omega)
     have:=hcell 0 (.int .i64 u) (by rw [List.getElem?_map,hu]; rfl)
     simp [Addr.add,World.cell?] at this
     split at this<;>cases this
end Go.Pe.Tryz
namespace Go.Pe.Tryz
open Nat (reduceEqDiff reduceAdd reduceSub reduceLT)
open Go Go.RowKit Go.Shelf Go.Lib Go.Proofs.Tryz
theorem yO {P:Program} {ops:Array Oper} {o:Oper} {a:Act} {w:World} {K:Act->World->Prop} {Q:Exit->Act->World->Prop} {E:Prop}
  (hg:o.guard=none) (d x:Operand) (dT sT:TypeId) (hop:o.op=Op.call { callee:=Callee.builtin Builtin.append,args:=#[d,x],argTypes:=#[dT,sT] })
  (v u:Value) (hd:a.eval d=v) (hx:a.eval x=u) {v':Value} {w':World} (hr:(Builtin.append_ #[dT,sT] o.type #[v,u]).run P w=.ok v' w') (hK:K (a.put o.dst v') w') :
  if Region.wanted o (yielded ops a.tmps)=true then Oper.wp P o a w K Q else E:=by
 have hw:Region.wanted o (yielded ops a.tmps)=true:=by simp [Region.wanted,hg]
 rw [if_pos hw]
 unfold Oper.wp
 simp [execOp,hop,resolve,invoke,builtin,hd,hx,hr,Result.andThen]
 exact hK
theorem aJm {P:PG} {f:FuncId} (es:Nat)
  (raw:∀ (g n cp i j:Nat) (cs:List Value) (w:World),g7 w g (cp * es) cs->cs.length=n * es->n<=cp->i < j->j<=n->(∀ v∈cs,v.oneCell'=true) ->
   Calls P.P f #[.slice (some ⟨g,0,none⟩) n cp,.int .i64 i,.int .i64 j] w fun e w' =>
    e=.returned (.slice (some ⟨g,0,none⟩) (n - (j - i)) cp)/\g7 w' g (cp * es) (cs.take (i * es) ++ cs.drop (j * es))/\Went w w' (fun b=>b=g)/\(lX w g->lX w' g))
  (xs:List D) (hs:∀ x∈xs,x.size=es) (i j:Nat) (hij:i < j) (hj:j<=xs.length) :
  y7 P f false (.sl true es (jC xs)) [.int .i64 i,.int .i64 j] (fun x' rs=>(∃ u,x'=.lnk 0 u)/\rs=[.sl true es (jC (xs.take i ++ xs.drop j))]):=by
 intro M oc vs w hM hob hnd hlt hG hr
 obtain ⟨_,us1,f1,f2,rfl,e0,⟨rfl,rfl⟩,_,us2,f3,f4,rfl,e1,⟨rfl,rfl⟩,rfl,rfl⟩:=hr
 obtain ⟨cs0,hrep,hv⟩:=hob
 obtain ⟨hL,a,c,ds,fps,rfl,hc,h3,h4⟩:=hrep
 rw [eX] at hc hv
 simp only [if_true] at h4
 rcases h4 with ⟨rfl,_,_⟩|⟨g,rfl,hrow,hfp⟩
 ·omega
 have hone:=oV _ _ _ h3
 have hdl:ds.length=xs.length * es:=by rw [dJ _ _ _ h3,j8 _ hs]
 have hv':mkV false oc=.slice (some ⟨g,0,none⟩) xs.length c:=by
  show oc.v=_
  rw [hv]; rfl
 rw [hv']
 have hsp:xs=xs.take i ++ ((xs.drop i).take (j - i) ++ xs.drop j):=by
  have:xs.drop j=(xs.drop i).drop (j - i):=by rw [List.drop_drop]; congr 1; omega
  rw [this,List.take_append_drop,List.take_append_drop]
 have h3':=h3
 rw [hsp] at h3'
 obtain ⟨c1,c23,p1,p23,ed,ef,r1,r23⟩:=(fN _ _ _ _).1 h3'
 obtain ⟨c2,c3,p2,p3,rfl,rfl,r2,r3⟩:=(fN _ _ _ _).1 r23
 have l1:c1.length=i * es:=by
  rw [dJ _ _ _ r1,j8 _ (fun y hy=>hs y (List.mem_of_mem_take hy)),List.length_take,Nat.min_eq_left (by omega)]
 have l2:c2.length=(j - i) * es:=by
  rw [dJ _ _ _ r2,j8 _ (fun y hy=>hs y (List.mem_of_mem_drop (List.mem_of_mem_take hy))),List.length_take,List.length_drop,Nat.min_eq_left (by omega)]
 have t1:ds.take (i * es)=c1:=by rw [ed,<-l1,List.take_left]
 have t3:ds.drop (j * es)=c3:=by
  have:j * es=(c1 ++ c2).length:=by rw [List.length_append,l1,l2,<-Nat.add_mul]; congr 1; omega
  rw [ed,<-List.append_assoc,this,List.drop_left]
 refine (raw g xs.length c i j ds w hrow.1 hdl hc hij hj hone).mono ?_
 rintro e w' ⟨rfl,hrow',hw,hnm⟩
 rw [t1,t3] at hrow'
 rw [hfp,ef] at hnd hlt
 obtain ⟨hg,hnd⟩:=List.nodup_cons.1 hnd
 have n1:=List.nodup_append.1 hnd
 have n2:=List.nodup_append.1 n1.2.1
 have sub:∀ b∈g :: (p1 ++ p3),b∈oc.fp:=fun b hb=>by
  rw [hfp,ef]
  rcases List.mem_cons.1 hb with hb|hb
  ·simp [hb]
  ·rcases List.mem_append.1 hb with hb|hb<;>simp [hb]
 have hin:∀ b,b∈g :: (p1 ++ (p2 ++ p3))↔b∈oc.fp:=fun b=>by rw [hfp,ef]
 have frame:∀ (q:List D) (cs:List Value) (p:List Nat),(∀ b∈p,b≠g)->(jC q).rep w (fun b=>M b\/b∈oc.fp) cs p->(jC q).rep w' (fun b=>M b\/b∈[] ++ (g :: (p1 ++ p3))) cs p:=by
  intro q cs p hp hq
  refine eC hw.size (fun b _ h=>h.imp id (fun h=>sub b (by simpa using h))) _ _ _ (fun b hb hx=>hw.kept b hb fun e=>?_) hq
  subst e
  rcases hx with hx|hx
  ·exact hp _ hx rfl
  ·exact hx (.inr ((hin _).1 (by simp)))
 have nd:(g :: (p1 ++ p3)).Nodup:=by
  refine List.nodup_cons.2 ⟨fun h=>hg ?_,List.nodup_append.2 ⟨n1.1,n2.2.1,fun a ha b hb=>n1.2.2 a ha b (by simp [hb])⟩⟩
  rcases List.mem_append.1 h with h|h<;>simp [h]
 refine ⟨.lnk 0 oc.v,_,[.slice (some ⟨g,0,none⟩) (xs.length - (j - i)) c],[],g :: (p1 ++ p3),rfl,⟨⟨_,rfl⟩,rfl⟩,⟨[oc.v],⟨rfl,by rw [hv]; rfl,rfl⟩,rfl⟩,?_,by simpa using nd,fun b hb=>?_,?_⟩
 ·have hl':(xs.take i ++ xs.drop j).length=xs.length - (j - i):=by simp; omega
  refine ⟨[.slice (some ⟨g,0,none⟩) (xs.length - (j - i)) c],[],g :: (p1 ++ p3),[],rfl,by simp,⟨(iU _).2 fun y hy=>?_,some ⟨g,0,none⟩,c,c1 ++ c3,p1 ++ p3,by rw [eX,hl'],by rw [eX,hl']; omega,?_,?_⟩,rfl,rfl⟩
  ·rcases List.mem_append.1 hy with hy|hy
   ·exact hs y (List.mem_of_mem_take hy)
   ·exact hs y (List.mem_of_mem_drop hy)
  ·exact (fN _ _ _ _).2 ⟨c1,c3,p1,p3,rfl,rfl,frame _ _ _ (fun b hb e=>hg (by simp [<- e,hb])) r1,frame _ _ _ (fun b hb e=>hg (by simp [<- e,hb])) r3⟩
  ·simp only [if_true]
   exact .inr ⟨g,rfl,⟨hrow',fun he=>hnm (hrow.2 he)⟩,rfl⟩
 ·have hb':b∈g :: (p1 ++ p3):=by simpa using hb
  exact ⟨.inl (sub b hb'),by have:=hlt b ((hin b).2 (sub b hb')); have:=hw.size; omega⟩
 ·exact ⟨hw.os,hw.tape,hw.output,hw.size,fun b hb hx=>hw.kept b hb fun e=>hx (sub b (by simp [e]))⟩
theorem aG2 (g n cp i j:Nat) (cs:List Value) (w:World) (hrow:g7 w g (cp * 4) cs) (hlen:cs.length=n * 4) (hn:n<=cp) (hij:i < j) (hj:j<=n) (h1:∀ v∈cs,v.oneCell'=true) :
  Calls Go.Proofs.Tryz.prog 215 #[.slice (some ⟨g,0,none⟩) n cp,.int .i64 i,.int .i64 j] w fun e w' =>
   e=.returned (.slice (some ⟨g,0,none⟩) (n - (j - i)) cp)/\g7 w' g (cp * 4) (cs.take (i * 4) ++ cs.drop (j * 4))/\Went w w' (fun b=>b=g)/\(lX w g->lX w' g):=by
 obtain ⟨inf,hinf,hsize,hzero⟩:∃ inf,Go.Proofs.Tryz.prog.info? 115=some inf/\inf.size=4/\inf.zero=some (.agg #[.int .i64 0,.int .i64 0,.int .i64 0,.slice none 0 0]):=⟨_,rfl,rfl,rfl⟩
 have hu:Go.Proofs.Tryz.prog.underlying 37=some (.slice 115):=rfl
 obtain ⟨cur,E,hcur,hsz,htk⟩:=hrow
 have hfit:cs.length<=cur.toList.length:=by
  have e:cur.toList.length=cur.size:=by simp
  rw [e,hsz,hlen]
  exact Nat.mul_le_mul_right _ hn
 obtain ⟨news,hnews⟩:∃ news,news=cs.drop (j * 4):=⟨_,rfl⟩
 have hnl:news.length=(n - j) * inf.size:=by rw [hnews,List.length_drop,hlen,hsize]; omega
 obtain ⟨row1,hrow1⟩:∃ row1,row1=(cur.toList.take (i * inf.size) ++ news ++ cur.toList.drop (i * inf.size + news.length)).toArray:=⟨_,rfl⟩
 have hcurd:hZ w.drew g cur E:=hcur
 have hA:∃ A:Addr,(if cp=j then (some ⟨g,0,none⟩:Option Addr) else some ⟨g,j * 4,none⟩)=some A/\Hid (∀ t u,news[t]?=some u->w.drew.cell? (A.add t)=some u):=by
  by_cases h:cp=j
  ·refine ⟨⟨g,0,none⟩,by simp [h],fun t u hu=>?_⟩
   have h0:news=[]:=List.eq_nil_of_length_eq_zero (by rw [hnl,show n - j=0 by omega,Nat.zero_mul])
   rw [h0] at hu
   simp at hu
  ·refine ⟨⟨g,j * 4,none⟩,by simp [h],fun t u hu=>?_⟩
   rw [Addr.add_lit,hcurd.cell]
   rw [hnews,List.getElem?_drop,<-htk,List.getElem?_take] at hu
   split at hu
   ·simpa using hu
   ·cases hu
 obtain ⟨A,hA,hsrc⟩:=hA
 have s2:Hid (∀ u∈news,u.oneCell'=true):=fun u hu=>h1 u (by rw [hnews] at hu; exact List.mem_of_mem_drop hu)
 have hap:Hid (∀ ty,(Builtin.append_ #[37,37] ty #[.slice (some ⟨g,0,none⟩) i cp,.slice (some A) (n - j) (cp - j)]).run Go.Proofs.Tryz.prog w.drew=.ok (.slice (some ⟨g,0,none⟩) (i + (n - j)) cp) (w.drew.setRow g row1)):=fun ty=>by
  rw [hrow1]
  refine pB hu hinf g i cp cur hcurd A (n - j) (cp - j) news hnl hsrc.out s2.out (by omega) ?_
  rw [hnl,hsize,hsz,<-Nat.add_mul]
  exact Nat.mul_le_mul_right _ (by omega)
 have hr1s:row1.size=cur.size:=by
  rw [hrow1]
  simp only [List.size_toArray,List.length_append,List.length_take,List.length_drop,hnl,hsize,Array.length_toList,hsz]
  have:(i + (n - j)) * 4<=cp * 4:=Nat.mul_le_mul_right _ (by omega)
  omega
 obtain ⟨W1,hW1⟩:∃ W1,W1=w.drew.setRow g row1:=⟨_,rfl⟩
 have hcur1:hZ W1 g row1 E:=by rw [hW1]; exact hcurd.set hr1s
 have hW:Hid (W1=w.drew.setRow g row1):=hW1
 obtain ⟨row2,hrow2⟩:∃ row2,row2=(row1.toList.take ((i + (n - j)) * 4) ++ (madeCells ((.agg #[.int .i64 0,.int .i64 0,.int .i64 0,.slice none 0 0]):Value).cells ((n - (i + (n - j))) * ((.agg #[.int .i64 0,.int .i64 0,.int .i64 0,.slice none 0 0]):Value).cells.size)).toList ++ row1.toList.drop ((i + (n - j)) * 4 + (madeCells ((.agg #[.int .i64 0,.int .i64 0,.int .i64 0,.slice none 0 0]):Value).cells ((n - (i + (n - j))) * ((.agg #[.int .i64 0,.int .i64 0,.int .i64 0,.slice none 0 0]):Value).cells.size)).toList.length)).toArray:=⟨_,rfl⟩
 have hcl:∀ ty,(Builtin.clear_ #[37] ty #[.slice (some ⟨g,(i + (n - j)) * 4,none⟩) (n - (i + (n - j))) (cp - (i + (n - j)))]).run Go.Proofs.Tryz.prog W1=.ok (.tuple #[]) (W1.setRow g row2):=fun ty=>by
  rw [hrow2]
  refine aE6 hu hinf hzero (by omega) hcur1 ?_ (by decide)
  show (i + (n - j)) * 4 + (n - (i + (n - j))) * 4<=row1.size
  rw [hr1s,hsz,<-Nat.add_mul]
  exact Nat.mul_le_mul_right _ (by omega)
 have hr2:Hid (row2=(row1.toList.take ((i + (n - j)) * 4) ++ (madeCells ((.agg #[.int .i64 0,.int .i64 0,.int .i64 0,.slice none 0 0]):Value).cells ((n - (i + (n - j))) * ((.agg #[.int .i64 0,.int .i64 0,.int .i64 0,.slice none 0 0]):Value).cells.size)).toList ++ row1.toList.drop ((i + (n - j)) * 4 + (madeCells ((.agg #[.int .i64 0,.int .i64 0,.int .i64 0,.slice none 0 0]):Value).cells ((n - (i + (n - j))) * ((.agg #[.int .i64 0,.int .i64 0,.int .i64 0,.slice none 0 0]):Value).cells.size)).toList.length)).toArray):=hrow2
 have mixed:Go.Proofs.Tryz.prog.follows .mixedOrders=true:=rfl
 have hic:i<=cp:=by omega
 have hjc:j<=cp:=by omega
 have hnt:Go.Proofs.Tryz.f215.ntmps=33:=rfl
 have hlt:i<=j:=by omega
 have hne:¬ ((i:Int)=(j:Int)):=by omega
 have hk1:inf.size=4:=hsize
 have X0:Aside (cs.length=n * 4):=hlen
 have X8:Aside (hZ w.drew g cur E):=hcurd
 have X1:Aside (hZ W1 g row1 E):=hcur1
 have X2:Aside (row1=(cur.toList.take (i * inf.size) ++ news ++ cur.toList.drop (i * inf.size + news.length)).toArray):=hrow1
 have X3:Aside (news=cs.drop (j * 4)):=hnews
 have X4:Aside (cur.toList.take cs.length=cs):=htk
 have X5:Aside (news.length=(n - j) * inf.size):=hnl
 have X6:Aside (row1.size=cur.size):=hr1s
 have X7:Aside (cur.size=cp * 4):=hsz
 clear hcur1 hrow1 hnews htk hnl hr1s hrow2 hW1 hsz hfit hcur hcurd hlen
 try simp only [Nat.mul_one] at hA hcl
 go_enter Go.Proofs.Tryz.func215,hnt
 go_wp2_with fail
 go_region_law_o (refine yO rfl (.tmp 22) (.tmp 25) 37 37 rfl _ _ (by simp [Act.eval,Act.put]) (by simp [Act.eval,Act.put]) (hap.out _) ?_; rw [<- hW.out])
 go_wp2
 go_ret
 have hcur1:=X1.out
 have hrow1:=X2.out
 have hnews:=X3.out
 have htk:=X4.out
 have hnl:=X5.out
 have hr1s:=X6.out
 have hsz:=X7.out
 have hlen:=X0.out
 have hr2:=hr2.out
 have hW:=hW.out
 rw [hk1] at hrow1 hnl
 have hz:(madeCells ((.agg #[.int .i64 0,.int .i64 0,.int .i64 0,.slice none 0 0]):Value).cells ((n - (i + (n - j))) * ((.agg #[.int .i64 0,.int .i64 0,.int .i64 0,.slice none 0 0]):Value).cells.size)).toList.length=(n - (i + (n - j))) * 4:=by
  rw [Array.length_toList,size_madeCells]; rfl
 generalize (madeCells ((.agg #[.int .i64 0,.int .i64 0,.int .i64 0,.slice none 0 0]):Value).cells ((n - (i + (n - j))) * ((.agg #[.int .i64 0,.int .i64 0,.int .i64 0,.slice none 0 0]):Value).cells.size)).toList=zs at hz hr2
 have hle:(i + (n - j)) * 4<=row1.toList.length:=by
  rw [Array.length_toList,hr1s,hsz]
  exact Nat.mul_le_mul_right _ (by omega)
 have hle2:(i + (n - j)) * 4 + (n - (i + (n - j))) * 4<=row1.toList.length:=by
  rw [<- Nat.add_mul,Array.length_toList,hr1s,hsz]
  exact Nat.mul_le_mul_right _ (by omega)
 have hr2s:row2.size=row1.size:=by
  rw [hr2,List.size_toArray,List.length_append,List.length_append,List.length_take,List.length_drop,hz,Nat.min_eq_left hle]
  rw [Array.length_toList] at hle2 ⊢
  omega
 have hcl2:(i + (n - j)) * 4=i * 4 + (n - j) * 4:=Nat.add_mul _ _ _
 have hlt1:(cs.take (i * 4)).length=i * 4:=by
  rw [List.length_take,hlen]
  exact Nat.min_eq_left (Nat.mul_le_mul_right _ (by omega))
 have hct:cur.toList.take (i * 4)=cs.take (i * 4):=by
  rw [<- htk,List.take_take]
  congr 1
  rw [hlen]
  exact (Nat.min_eq_left (Nat.mul_le_mul_right _ (by omega))).symm
 refine ⟨congrArg Ending.returned (show Value.slice (some ⟨g,0,none⟩) (i + (n - j)) cp=_ by rw [show i + (n - j)=n - (j - i) by omega]),⟨row2,E,hcur1.set hr2s,by rw [hr2s,hr1s,hsz],?_⟩,?_,fun hn=>?_⟩
 ·have e1:(cs.take (i * 4) ++ cs.drop (j * 4)).length=(i + (n - j)) * 4:=by
   rw [List.length_append,hlt1,<-hnews,hnl,hcl2]
  rw [e1,hr2]
  show (row1.toList.take ((i + (n - j)) * 4) ++ zs ++ _).take ((i + (n - j)) * 4)=_
  rw [List.append_assoc,List.take_left' (by rw [List.length_take]; exact Nat.min_eq_left hle),hrow1]
  show (cur.toList.take (i * 4) ++ news ++ _).take ((i + (n - j)) * 4)=_
  rw [List.take_left' (by rw [List.length_append,hct,hlt1,hnl,hcl2]),hct,hnews]
 ·rw [hW]
  have h1:Went w w.drew (fun b=>b=g):=⟨rfl,rfl,rfl,Nat.le_refl _,fun _ _ _=>rfl⟩
  have h2:=fP w.drew g row1
  have h3:=fP (w.drew.setRow g row1) g row2
  refine ⟨h3.os.trans (h2.os.trans h1.os),h3.tape.trans (h2.tape.trans h1.tape),h3.output.trans (h2.output.trans h1.output),Nat.le_trans h1.size (Nat.le_trans h2.size h3.size),fun b hb hx=>?_⟩
  rw [h3.kept b (by simpa using hb) hx,h2.kept b hb hx]
  rfl
 ·refine lX.set hcur1 ?_
  rw [hW]
  exact lX.set X8.out (fun cur E fz e=>hn cur E fz e)
theorem aGC (g n cp i j:Nat) (cs:List Value) (w:World) (hrow:g7 w g (cp * 1) cs) (hlen:cs.length=n * 1) (hn:n<=cp) (hij:i < j) (hj:j<=n) (h1:∀ v∈cs,v.oneCell'=true) :
  Calls Go.Proofs.Tryz.prog 190 #[.slice (some ⟨g,0,none⟩) n cp,.int .i64 i,.int .i64 j] w fun e w' =>
   e=.returned (.slice (some ⟨g,0,none⟩) (n - (j - i)) cp)/\g7 w' g (cp * 1) (cs.take (i * 1) ++ cs.drop (j * 1))/\Went w w' (fun b=>b=g)/\(lX w g->lX w' g):=by
 obtain ⟨inf,hinf,hsize,hzero⟩:∃ inf,Go.Proofs.Tryz.prog.info? 3=some inf/\inf.size=1/\inf.zero=some (.int .i64 0):=⟨_,rfl,rfl,rfl⟩
 have hu:Go.Proofs.Tryz.prog.underlying 84=some (.slice 3):=rfl
 obtain ⟨cur,E,hcur,hsz,htk⟩:=hrow
 have hfit:cs.length<=cur.toList.length:=by
  have e:cur.toList.length=cur.size:=by simp
  rw [e,hsz,hlen]
  exact Nat.mul_le_mul_right _ hn
 obtain ⟨news,hnews⟩:∃ news,news=cs.drop (j * 1):=⟨_,rfl⟩
 have hnl:news.length=(n - j) * inf.size:=by rw [hnews,List.length_drop,hlen,hsize]; omega
 obtain ⟨row1,hrow1⟩:∃ row1,row1=(cur.toList.take (i * inf.size) ++ news ++ cur.toList.drop (i * inf.size + news.length)).toArray:=⟨_,rfl⟩
 have hcurd:hZ w.drew g cur E:=hcur
 have hA:∃ A:Addr,(if cp=j then (some ⟨g,0,none⟩:Option Addr) else some ⟨g,j * 1,none⟩)=some A/\Hid (∀ t u,news[t]?=some u->w.drew.cell? (A.add t)=some u):=by
  by_cases h:cp=j
  ·refine ⟨⟨g,0,none⟩,by simp [h],fun t u hu=>?_⟩
   have h0:news=[]:=List.eq_nil_of_length_eq_zero (by rw [hnl,show n - j=0 by omega,Nat.zero_mul])
   rw [h0] at hu
   simp at hu
  ·refine ⟨⟨g,j * 1,none⟩,by simp [h],fun t u hu=>?_⟩
   rw [Addr.add_lit,hcurd.cell]
   rw [hnews,List.getElem?_drop,<-htk,List.getElem?_take] at hu
   split at hu
   ·simpa using hu
   ·cases hu
 obtain ⟨A,hA,hsrc⟩:=hA
 have s2:Hid (∀ u∈news,u.oneCell'=true):=fun u hu=>h1 u (by rw [hnews] at hu; exact List.mem_of_mem_drop hu)
 have hap:Hid (∀ ty,(Builtin.append_ #[84,84] ty #[.slice (some ⟨g,0,none⟩) i cp,.slice (some A) (n - j) (cp - j)]).run Go.Proofs.Tryz.prog w.drew=.ok (.slice (some ⟨g,0,none⟩) (i + (n - j)) cp) (w.drew.setRow g row1)):=fun ty=>by
  rw [hrow1]
  refine pB hu hinf g i cp cur hcurd A (n - j) (cp - j) news hnl hsrc.out s2.out (by omega) ?_
  rw [hnl,hsize,hsz,<-Nat.add_mul]
  exact Nat.mul_le_mul_right _ (by omega)
 have hr1s:row1.size=cur.size:=by
  rw [hrow1]
  simp only [List.size_toArray,List.length_append,List.length_take,List.length_drop,hnl,hsize,Array.length_toList,hsz]
  have:(i + (n - j)) * 1<=cp * 1:=Nat.mul_le_mul_right _ (by omega)
  omega
 obtain ⟨W1,hW1⟩:∃ W1,W1=w.drew.setRow g row1:=⟨_,rfl⟩
 have hcur1:hZ W1 g row1 E:=by rw [hW1]; exact hcurd.set hr1s
 have hW:Hid (W1=w.drew.setRow g row1):=hW1
 obtain ⟨row2,hrow2⟩:∃ row2,row2=(row1.toList.take ((i + (n - j)) * 1) ++ (madeCells ((.int .i64 0):Value).cells ((n - (i + (n - j))) * ((.int .i64 0):Value).cells.size)).toList ++ row1.toList.drop ((i + (n - j)) * 1 + (madeCells ((.int .i64 0):Value).cells ((n - (i + (n - j))) * ((.int .i64 0):Value).cells.size)).toList.length)).toArray:=⟨_,rfl⟩
 have hcl:∀ ty,(Builtin.clear_ #[84] ty #[.slice (some ⟨g,(i + (n - j)) * 1,none⟩) (n - (i + (n - j))) (cp - (i + (n - j)))]).run Go.Proofs.Tryz.prog W1=.ok (.tuple #[]) (W1.setRow g row2):=fun ty=>by
  rw [hrow2]
  refine aE6 hu hinf hzero (by omega) hcur1 ?_ (by decide)
  show (i + (n - j)) * 1 + (n - (i + (n - j))) * 1<=row1.size
  rw [hr1s,hsz,<-Nat.add_mul]
  exact Nat.mul_le_mul_right _ (by omega)
 have hr2:Hid (row2=(row1.toList.take ((i + (n - j)) * 1) ++ (madeCells ((.int .i64 0):Value).cells ((n - (i + (n - j))) * ((.int .i64 0):Value).cells.size)).toList ++ row1.toList.drop ((i + (n - j)) * 1 + (madeCells ((.int .i64 0):Value).cells ((n - (i + (n - j))) * ((.int .i64 0):Value).cells.size)).toList.length)).toArray):=hrow2
 have mixed:Go.Proofs.Tryz.prog.follows .mixedOrders=true:=rfl
 have hic:i<=cp:=by omega
 have hjc:j<=cp:=by omega
 have hnt:Go.Proofs.Tryz.f190.ntmps=33:=rfl
 have hlt:i<=j:=by omega
 have hne:¬ ((i:Int)=(j:Int)):=by omega
 have hk1:inf.size=1:=hsize
 have X0:Aside (cs.length=n * 1):=hlen
 have X8:Aside (hZ w.drew g cur E):=hcurd
 have X1:Aside (hZ W1 g row1 E):=hcur1
 have X2:Aside (row1=(cur.toList.take (i * inf.size) ++ news ++ cur.toList.drop (i * inf.size + news.length)).toArray):=hrow1
 have X3:Aside (news=cs.drop (j * 1)):=hnews
 have X4:Aside (cur.toList.take cs.length=cs):=htk
 have X5:Aside (news.length=(n - j) * inf.size):=hnl
 have X6:Aside (row1.size=cur.size):=hr1s
 have X7:Aside (cur.size=cp * 1):=hsz
 clear hcur1 hrow1 hnews htk hnl hr1s hrow2 hW1 hsz hfit hcur hcurd hlen
 try simp only [Nat.mul_one] at hA hcl
 go_enter Go.Proofs.Tryz.func190,hnt
 go_wp2_with fail
 go_region_law_o (refine yO rfl (.tmp 22) (.tmp 25) 84 84 rfl _ _ (by simp [Act.eval,Act.put]) (by simp [Act.eval,Act.put]) (hap.out _) ?_; rw [<- hW.out])
 go_wp2
 go_ret
 have hcur1:=X1.out
 have hrow1:=X2.out
 have hnews:=X3.out
 have htk:=X4.out
 have hnl:=X5.out
 have hr1s:=X6.out
 have hsz:=X7.out
 have hlen:=X0.out
 have hr2:=hr2.out
 have hW:=hW.out
 rw [hk1] at hrow1 hnl
 have hz:(madeCells ((.int .i64 0):Value).cells ((n - (i + (n - j))) * ((.int .i64 0):Value).cells.size)).toList.length=(n - (i + (n - j))) * 1:=by
  rw [Array.length_toList,size_madeCells]; rfl
 generalize (madeCells ((.int .i64 0):Value).cells ((n - (i + (n - j))) * ((.int .i64 0):Value).cells.size)).toList=zs at hz hr2
 have hle:(i + (n - j)) * 1<=row1.toList.length:=by
  rw [Array.length_toList,hr1s,hsz]
  exact Nat.mul_le_mul_right _ (by omega)
 have hle2:(i + (n - j)) * 1 + (n - (i + (n - j))) * 1<=row1.toList.length:=by
  rw [<- Nat.add_mul,Array.length_toList,hr1s,hsz]
  exact Nat.mul_le_mul_right _ (by omega)
 have hr2s:row2.size=row1.size:=by
  rw [hr2,List.size_toArray,List.length_append,List.length_append,List.length_take,List.length_drop,hz,Nat.min_eq_left hle]
  rw [Array.length_toList] at hle2 ⊢
  omega
 have hcl2:(i + (n - j)) * 1=i * 1 + (n - j) * 1:=Nat.add_mul _ _ _
 have hlt1:(cs.take (i * 1)).length=i * 1:=by
  rw [List.length_take,hlen]
  exact Nat.min_eq_left (Nat.mul_le_mul_right _ (by omega))
 have hct:cur.toList.take (i * 1)=cs.take (i * 1):=by
  rw [<- htk,List.take_take]
  congr 1
  rw [hlen]
  exact (Nat.min_eq_left (Nat.mul_le_mul_right _ (by omega))).symm
 refine ⟨congrArg Ending.returned (show Value.slice (some ⟨g,0,none⟩) (i + (n - j)) cp=_ by rw [show i + (n - j)=n - (j - i) by omega]),⟨row2,E,hcur1.set hr2s,by rw [hr2s,hr1s,hsz],?_⟩,?_,fun hn=>?_⟩
 ·have e1:(cs.take (i * 1) ++ cs.drop (j * 1)).length=(i + (n - j)) * 1:=by
   rw [List.length_append,hlt1,<-hnews,hnl,hcl2]
  rw [e1,hr2]
  show (row1.toList.take ((i + (n - j)) * 1) ++ zs ++ _).take ((i + (n - j)) * 1)=_
  rw [List.append_assoc,List.take_left' (by rw [List.length_take]; exact Nat.min_eq_left hle),hrow1]
  show (cur.toList.take (i * 1) ++ news ++ _).take ((i + (n - j)) * 1)=_
  rw [List.take_left' (by rw [List.length_append,hct,hlt1,hnl,hcl2]),hct,hnews]
 ·rw [hW]
  have h1:Went w w.drew (fun b=>b=g):=⟨rfl,rfl,rfl,Nat.le_refl _,fun _ _ _=>rfl⟩
  have h2:=fP w.drew g row1
  have h3:=fP (w.drew.setRow g row1) g row2
  refine ⟨h3.os.trans (h2.os.trans h1.os),h3.tape.trans (h2.tape.trans h1.tape),h3.output.trans (h2.output.trans h1.output),Nat.le_trans h1.size (Nat.le_trans h2.size h3.size),fun b hb hx=>?_⟩
  rw [h3.kept b (by simpa using hb) hx,h2.kept b hb hx]
  rfl
 ·refine lX.set hcur1 ?_
  rw [hW]
  exact lX.set X8.out (fun cur E fz e=>hn cur E fz e)
theorem aIA (xs:List D) (hs:∀ x∈xs,x.size=4) (i j:Nat) (hij:i < j) (hj:j<=xs.length):y7 prog 215 false (.sl true 4 (jC xs)) [.int .i64 i,.int .i64 j] (fun x' rs=>(∃ u,x'=.lnk 0 u)/\rs=[.sl true 4 (jC (xs.take i ++ xs.drop j))]) :=
 aJm 4 (fun g n cp i j cs w h1 h2 h3 h4 h5 h6=>aG2 g n cp i j cs w h1 h2 h3 h4 h5 h6) xs hs i j hij hj
theorem aIZ (v:List Int) (i j:Nat) (hij:i < j) (hj:j<=v.length):y7 prog 190 false (.sl true 1 (dl iD v)) [.int .i64 i,.int .i64 j] (fun x' rs=>(∃ u,x'=.lnk 0 u)/\rs=[.sl true 1 (dl iD (v.take i ++ v.drop j))]):=by
 have h:=aJm (P:=prog) (f:=190) 1 (fun g n cp i j cs w h1 h2 h3 h4 h5 h6=>aGC g n cp i j cs w h1 h2 h3 h4 h5 h6) (v.map iD) (fun x hx=>by obtain ⟨n,_,rfl⟩:=List.mem_map.1 hx; rfl) i j hij (by simpa using hj)
 rw [<- List.map_take,<-List.map_drop,<-List.map_append] at h
 exact h
theorem oT {P:Program} {w:World} {t ty e E:TypeId} {i:TypeInfo} (ht:P.underlying t=some (.slice e)) (hi:P.info? e=some i) {g off dn dc:Nat} {cur:Array Value} (hg:hZ w g cur E)
  (a:Addr) (sn sc:Nat) (news:List Value) (hl:news.length=Nat.min sn dn * i.size) (hnews:∀ j u,news[j]?=some u->w.cell? (a.add j)=some u) (h1:∀ u∈news,u.oneCell'=true) (hfit:off + news.length<=cur.size) :
  (Builtin.copy_ #[t,t] ty #[.slice (some ⟨g,off,none⟩) dn dc,.slice (some a) sn sc]).run P w=.ok (goInt (Nat.min sn dn)) (w.setRow g (cur.toList.take off ++ news ++ cur.toList.drop (off + news.length)).toArray):=by
 have hf:=run_firstCells_some (P:=P) w i.size (Nat.min sn dn) a sn sc news hl hnews
 have hst:=iY P g off E news 0 cur w hg (by simpa using hfit) h1
 simp only [Nat.add_zero] at hst
 simp [Builtin.copy_,run_underlying ht,sizeOf,typeInfo,hi,Builtin.lenOf,hf,hst]
theorem vW {P:Program} {ops:Array Oper} {o:Oper} {a:Act} {w:World} {K:Act->World->Prop} {Q:Exit->Act->World->Prop} {E:Prop}
  (hg:o.guard=none) (d x:Operand) (dT sT:TypeId) (hop:o.op=Op.call { callee:=Callee.builtin Builtin.copy,args:=#[d,x],argTypes:=#[dT,sT] })
  (v u:Value) (hd:a.eval d=v) (hx:a.eval x=u) {v':Value} {w':World} (hr:(Builtin.copy_ #[dT,sT] o.type #[v,u]).run P w=.ok v' w') (hK:K (a.put o.dst v') w') :
  if Region.wanted o (yielded ops a.tmps)=true then Oper.wp P o a w K Q else E:=by
 have hw:Region.wanted o (yielded ops a.tmps)=true:=by simp [Region.wanted,hg]
 rw [if_pos hw]
 unfold Oper.wp
 simp [execOp,hop,resolve,invoke,builtin,hd,hx,hr,Result.andThen]
 exact hK
def aI9 (w:World) (es:Nat) (a:Option Addr) (n c:Nat) (cs:List Value):Prop :=
 cs.length=n * es/\n<=c/\((c=0)\/∃ g,a=some ⟨g,0,none⟩/\aDm w g es (c * es) cs)
def x5 (w:World) (es:Nat) (a:Option Addr) (c0 n:Nat) (cs:List Value) (v:Value) (w':World):Prop :=
 ∃ g c,v=.slice (some ⟨g,0,none⟩) n c/\n<=c/\aDm w' g es (c * es) cs/\(w.heap.size<=g\/(c0≠0/\a=some ⟨g,0,none⟩))/\Went w w' (fun b=>c0≠0/\a=some ⟨b,0,none⟩)
theorem aMV:∃ inf,Go.Proofs.Tryz.prog.info? 115=some inf/\inf.size=4/\inf.bytes=48/\inf.zero=some (.agg #[.int .i64 0,.int .i64 0,.int .i64 0,.slice none 0 0]):=⟨_,rfl,rfl,rfl,rfl⟩
theorem sR:Go.Proofs.Tryz.prog.underlying 37=some (.slice 115):=rfl
theorem aQh (a:Option Addr) (n c vc:Nat) (va:Addr) (cs vs:List Value) (w:World) (h:aI9 w 4 a n c cs) (hvl:vs.length=4) (hv:∀ j u,vs[j]?=some u->w.cell? (va.add j)=some u) (h1:∀ v∈vs,v.oneCell'=true) (hn:n<=1048576) :
  ∃ v' w',(∀ ty,(Builtin.append_ #[37,37] ty #[.slice a n c,.slice (some va) 1 vc]).run Go.Proofs.Tryz.prog w=.ok v' w')/\x5 w 4 a c (n + 1) (cs ++ vs) v' w':=by
 obtain ⟨hl,hc,h⟩:=h
 obtain ⟨inf,hinf,hsize,hbytes,hzero⟩:=aMV
 have hvl':vs.length=1 * inf.size:=by rw [hsize,hvl]
 have hext:∀ (ob:Obj) (X:Nat->Prop),Went w (w.drew.alloc ob) X:=fun ob X=>aWG (yY w ob) X
 rcases h with rfl|⟨g,rfl,hrow⟩
 ·have h0:n=0:=by omega
  subst h0
  have hcs:cs=[]:=List.eq_nil_of_length_eq_zero (by simpa using hl)
  subst hcs
  refine ⟨_,_,fun ty=>sH (ty:=ty) sR hinf hzero a va 1 vc vs hvl' hv (by omega) (by omega) (by rw [hbytes]; omega),?_⟩
  have hge:=grownCap_ge w 1 0 115
  refine ⟨w.heap.size,_,rfl,hge,⟨⟨_,_,hZ.new w.drew _ _,?_,by simp⟩,fun _=>lX.new w.drew _ _⟩,.inl (Nat.le_refl _),hext _ _⟩
  rw [Array.size_append,List.size_toArray,size_zeroCells,hvl]
  show 4 + (grownCap w 1 0 _ - 1) * 4=_
  omega
 ·obtain ⟨⟨cur,E,hcur,hsz,htk⟩,hnm⟩:=hrow
  by_cases hroom:n + 1<=c
  ·have hfit:n * inf.size + vs.length<=cur.size:=by
    rw [hsize,hvl,hsz]; omega
   refine ⟨_,_,fun ty=>pB (ty:=ty) sR hinf g n c cur hcur va 1 vc vs hvl' hv h1 hroom hfit,?_⟩
   refine ⟨g,c,rfl,hroom,⟨⟨_,E,hcur.set ?_,?_,?_⟩,fun he=>(hnm he).set hcur⟩,.inr ⟨by omega,rfl⟩,?_⟩
   ·simp only [List.size_toArray,List.length_append,List.length_take,List.length_drop,Array.length_toList]
    rw [Nat.min_eq_left (by omega)]; omega
   ·rw [<- hsz]
    simp only [List.size_toArray,List.length_append,List.length_take,List.length_drop]
    have:cur.toList.length=cur.size:=by simp
    rw [Nat.min_eq_left (by omega)]; omega
   ·have e1:cur.toList.take (n * inf.size)=cs:=by rw [hsize,<-hl]; exact htk
    show (cur.toList.take (n * inf.size) ++ vs ++ _).take (cs ++ vs).length=_
    rw [e1,List.take_left]
   ·have:=fP w g (cur.toList.take (n * inf.size) ++ vs ++ cur.toList.drop (n * inf.size + vs.length)).toArray
    exact ⟨this.os,this.tape,this.output,this.size,fun b hb hx=>this.kept b hb fun e=>hx ⟨by omega,by rw [e]⟩⟩
  ·have hcell0:∀ j u,cs[j]?=some u->w.cell? ((⟨g,0,none⟩:Addr).add j)=some u:=by
    have:=jT.of_row (M:=fun _=>False) (⟨cur,E,hcur,hsz,htk⟩:g7 w g _ cs) (fun h=>h)
    rcases this with h8|h8
    ·exact fun j u hu=>by rw [h8] at hu; simp at hu
    ·exact h8.2.2
   refine ⟨_,_,fun ty=>run_append_grow (P:=Go.Proofs.Tryz.prog) w _ ty _ inf _ sR hinf hzero ⟨g,0,none⟩ n c cs (by rw [hsize]; exact hl) hcell0 va 1 vc vs hvl' hv (by omega) (by omega) (by rw [hbytes]; exact growslice_fits (by omega) (by omega)),?_⟩
   have hge:=grownCap_ge w (n + 1) c 115
   refine ⟨w.heap.size,_,rfl,hge,⟨⟨_,_,hZ.new w.drew _ _,?_,?_⟩,fun _=>lX.new w.drew _ _⟩,.inl (Nat.le_refl _),hext _ _⟩
   ·rw [Array.size_append,Array.size_append,List.size_toArray,List.size_toArray,size_zeroCells,hvl,hl]
    show n * 4 + 4 + (grownCap w (n + 1) c _ - (n + 1)) * 4=_
    omega
   ·rw [Array.toList_append,Array.toList_append]; exact List.take_left
theorem aAB (a:Option Addr) (n c vc:Nat) (va:Addr) (cs vs:List Value) (w:World) (h:aI9 w 4 a n c cs) (hvl:vs.length=4) (hv:∀ j u,vs[j]?=some u->w.cell? (va.add j)=some u) (h1:∀ v∈vs,v.oneCell'=true) (hn:n<=1048576) :
  Calls Go.Proofs.Tryz.prog 146 #[.slice a n c,.int .i64 n,.slice (some va) 1 vc] w fun e w'=>∃ v,e=.returned v/\x5 w 4 a c (n + 1) (cs ++ vs) v w':=by
 obtain ⟨v',w',hrun,hG⟩:=aQh a n c vc va cs vs w h hvl hv h1 hn
 have hc:=h.2.1
 clear h hv h1
 have mixed:Go.Proofs.Tryz.prog.follows .mixedOrders=true:=rfl
 have hnt:Go.Proofs.Tryz.f146.ntmps=95:=rfl
 have hG':Hid (x5 w 4 a c (n + 1) (cs ++ vs) v' w'):=hG
 clear hG
 go_enter Go.Proofs.Tryz.func146,hnt
 cases a with
 | none =>
  go_wp2_with (at_builtin; refine Lib.wpList_append_run _ rfl _ _ _ _ rfl _ _ rfl rfl _ _ (hrun _) ?_)
  all_goals (go_ret; first|exact ⟨v',rfl,hG'.out⟩|(have hx:=hG'.out; rw [‹c=n›] at hx; exact ⟨v',rfl,hx⟩))
 | some ad =>
  obtain ⟨ab,ao,asp⟩:=ad
  go_wp2_with (at_builtin; refine Lib.wpList_append_run _ rfl _ _ _ _ rfl _ _ rfl rfl _ _ (hrun _) ?_)
  all_goals (go_ret; first|exact ⟨v',rfl,hG'.out⟩|(have hx:=hG'.out; rw [‹c=n›] at hx; exact ⟨v',rfl,hx⟩))
theorem aId {cs:List Value} {cur:List Value} (h:cur.take cs.length=cs) {k:Nat} (hk:k<=cs.length):cur.take k=cs.take k:=by
 conv=>rhs; rw [<- h]
 rw [List.take_take,Nat.min_eq_left hk]
theorem aEE (g n c i vc:Nat) (va:Addr) (cs vs:List Value) (w:World) (hl:cs.length=n * 4) (hc:n<=c) (hrow:aDm w g 4 (c * 4) cs) (hvl:vs.length=4) (hv:∀ j u,vs[j]?=some u->w.cell? (va.add j)=some u) (h1:∀ v∈vs,v.oneCell'=true) (h1c:∀ v∈cs,v.oneCell'=true) (hn:n<=1048576) (hi:i < n) (hfull:c < n + 1) :
  Calls Go.Proofs.Tryz.prog 146 #[.slice (some ⟨g,0,none⟩) n c,.int .i64 i,.slice (some va) 1 vc] w fun e w'=>∃ v,e=.returned v/\x5 w 4 (some ⟨g,0,none⟩) c (n + 1) (cs.take (i * 4) ++ vs ++ cs.drop (i * 4)) v w':=by
 obtain ⟨inf,hinf,hsize,hbytes,hzero⟩:=aMV
 obtain ⟨⟨cur,E,hcur,hsz,htk⟩,hnm⟩:=hrow
 have hfit:cs.length<=cur.toList.length:=by
  have e:cur.toList.length=cur.size:=by simp
  rw [e,hsz,hl]; omega
 have hcell:∀ j u,cs[j]?=some u->w.cell? ⟨g,j,none⟩=some u:=fun j u hu=>by
  rw [hcur.cell,<-Array.getElem?_toList]
  rw [<- htk,List.getElem?_take] at hu
  split at hu
  ·exact hu
  ·cases hu
 have hgl:=hcur.lt
 have hvl':vs.length=Nat.min 1 (n + 1 - i) * inf.size:=by
  rw [hsize,hvl,show Nat.min 1 (n + 1 - i)=1 from Nat.min_eq_left (by omega)]
 have hva:va.block < w.heap.size:=by
  obtain ⟨u,hu⟩:=dQ (show 0 < vs.length by omega)
  have:=block_lt_of_cell (hv 0 u hu)
  rwa [show (va.add 0).block=va.block from by unfold Addr.add; split<;>rfl] at this
 have hkk:(n:Int) + (1:Int) - (i:Int)=((n + 1 - i:Nat):Int):=by omega
 have hik:i + (n + 1 - i)=n + 1:=by omega
 have hold:(Builtin.firstCells inf.size i (.slice (some ⟨g,0,none⟩) i c)).run Go.Proofs.Tryz.prog w.drew=.ok (cs.take (i * 4)).toArray w.drew :=
  run_firstCells_some w.drew inf.size i ⟨g,0,none⟩ i c (cs.take (i * 4)) (by rw [List.length_take,hl,hsize]; omega) (fun j v hj=>by
   rw [Addr.add_lit,Nat.zero_add]
   rw [List.getElem?_take] at hj
   split at hj
   ·exact hcell j v hj
   ·cases hj)
 obtain ⟨G,hG⟩:∃ G,G=grownCap w (n + 1) c 115:=⟨_,rfl⟩
 obtain ⟨N,hN⟩:∃ N,N=w.heap.size:=⟨_,rfl⟩
 have hGn:n + 1<=G:=by rw [hG]; exact grownCap_ge w _ _ _
 obtain ⟨ROW,hROW⟩:∃ ROW:Array Value,ROW=(cs.take (i * 4)).toArray ++ Builtin.zeroCells (Value.agg #[.int .i64 0,.int .i64 0,.int .i64 0,.slice none 0 0]).cells (n + 1 - i) ++ Builtin.zeroCells (Value.agg #[.int .i64 0,.int .i64 0,.int .i64 0,.slice none 0 0]).cells (G - (n + 1)):=⟨_,rfl⟩
 obtain ⟨W1,hW1⟩:∃ W1,W1=w.drew.alloc (.cells ROW 115):=⟨_,rfl⟩
 have hrz:∀ ty,(Builtin.append_ #[37,3] ty #[.slice (some ⟨g,0,none⟩) i c,.int .i64 ((n:Int) + (1:Int) - (i:Int))]).run Go.Proofs.Tryz.prog w=.ok (.slice (some ⟨N,0,none⟩) (n + 1) G) W1:=fun ty=>by
  have h:=Lib.run_append_grow_zeros (P:=Go.Proofs.Tryz.prog) w 37 3 ty 115 inf _ .i64 .i64 sR rfl hinf hzero (some ⟨g,0,none⟩) i c (cs.take (i * 4)) hold (n + 1 - i) (by omega) (by omega) (by omega) (by omega) (by rw [hbytes]; omega) (by rw [hbytes,hik]; exact growslice_fits (by omega) (by omega))
  rw [hik,<-hG,<-hROW,<-hW1,<-hN] at h
  rw [hkk]
  exact h
 have hRl:ROW.size=G * 4:=by
  rw [hROW,Array.size_append,Array.size_append,List.size_toArray,size_zeroCells,size_zeroCells,List.length_take,hl,Nat.min_eq_left (by omega)]
  show i * 4 + (n + 1 - i) * 4 + (G - (n + 1)) * 4=_
  omega
 have hRt:ROW.toList.take (i * 4)=cs.take (i * 4):=by
  rw [hROW,Array.toList_append,Array.toList_append,List.append_assoc]
  exact List.take_left' (by rw [List.length_take,hl]; omega)
 have hc1:hZ W1 N ROW 115:=by rw [hW1,hN]; exact hZ.new w.drew _ _
 have hm1:lX W1 N:=by rw [hW1,hN]; exact lX.new w.drew _ _
 have hx1:lL w W1:=by rw [hW1]; exact yY w _
 obtain ⟨row2,hrow2⟩:∃ row2,row2=(ROW.toList.take (i * 4) ++ vs ++ ROW.toList.drop (i * 4 + vs.length)).toArray:=⟨_,rfl⟩
 obtain ⟨W2,hW2⟩:∃ W2,W2=W1.setRow N row2:=⟨_,rfl⟩
 have hRL:ROW.toList.length=ROW.size:=by simp
 have h2s:row2.size=ROW.size:=by
  rw [hrow2,List.size_toArray,List.length_append,List.length_append,List.length_take,List.length_drop,hvl,hRL,hRl]
  omega
 have hcpA:∀ ty dc,(Builtin.copy_ #[37,37] ty #[.slice (some ⟨N,i * 4,none⟩) (n + 1 - i) dc,.slice (some va) 1 vc]).run Go.Proofs.Tryz.prog W1=.ok (goInt (Nat.min 1 (n + 1 - i))) W2:=fun ty dc=>by
  rw [hW2,hrow2]
  refine oT sR hinf hc1 va 1 vc vs hvl' (fun j u hu=>?_) h1 (by rw [hvl,hRl]; omega)
  rw [World.cell?_of_block (w:=w) (by rw [show (va.add j).block=va.block from by unfold Addr.add; split<;>rfl]; exact hx1.block _ hva)]
  exact hv j u hu
 have hc2:hZ W2 N row2 115:=by rw [hW2]; exact hc1.set h2s
 have hm2:lX W2 N:=by rw [hW2]; exact hm1.set hc1
 have hk2:∀ b,b < w.heap.size->W2.heap[b]?=w.heap[b]?:=fun b hb=>by
  rw [hW2,setRow_other _ _ _ _ (by omega)]
  exact hx1.block b hb
 have hc2d:hZ W2.drew N row2 115:=hc2
 obtain ⟨row3,hrow3⟩:∃ row3,row3=(row2.toList.take ((i + 1) * 4) ++ cs.drop (i * 4) ++ row2.toList.drop ((i + 1) * 4 + (cs.drop (i * 4)).length)).toArray:=⟨_,rfl⟩
 obtain ⟨W3,hW3⟩:∃ W3,W3=W2.drew.setRow N row3:=⟨_,rfl⟩
 have hdl:(cs.drop (i * 4)).length=(n - i) * 4:=by rw [List.length_drop,hl]; omega
 have hR2L:row2.toList.length=row2.size:=by simp
 have h3s:row3.size=row2.size:=by
  rw [hrow3,List.size_toArray,List.length_append,List.length_append,List.length_take,List.length_drop,List.length_drop,hl,hR2L,h2s,hRl]
  omega
 have hmin:Nat.min (n - i) (n + 1 - (i + 1))=n - i:=by
  have:n + 1 - (i + 1)=n - i:=by omega
  rw [this]; exact Nat.min_self _
 have hcpB:∀ ty,(Builtin.copy_ #[37,37] ty #[.slice (some ⟨N,(i + 1) * 4,none⟩) (n + 1 - (i + 1)) (G - (i + 1)),.slice (some ⟨g,i * 4,none⟩) (n - i) (c - i)]).run Go.Proofs.Tryz.prog W2.drew=.ok (goInt (Nat.min (n - i) (n + 1 - (i + 1)))) W3:=fun ty=>by
  rw [hW3,hrow3]
  refine oT sR hinf hc2d ⟨g,i * 4,none⟩ (n - i) (c - i) (cs.drop (i * 4)) (by rw [hdl,hmin,hsize]) (fun j u hu=>?_) (fun v hv=>h1c v (List.mem_of_mem_drop hv)) (by rw [hdl,h2s,hRl]; omega)
  rw [Addr.add_lit]
  rw [List.getElem?_drop] at hu
  show W2.cell? ⟨g,i * 4 + j,none⟩=some u
  rw [World.cell?_of_block (w:=w) (a:=⟨g,i * 4 + j,none⟩) (hk2 g hgl)]
  exact hcell _ u hu
 have hfin:Hid (x5 w 4 (some ⟨g,0,none⟩) c (n + 1) (cs.take (i * 4) ++ vs ++ cs.drop (i * 4)) (.slice (some ⟨N,0,none⟩) (n + 1) G) W3):=by
  refine ⟨N,G,rfl,hGn,⟨⟨row3,115,by rw [hW3]; exact hc2d.set h3s,by rw [h3s,h2s,hRl],?_⟩,fun _=>by rw [hW3]; exact lX.set hc2d (fun cur E fz e=>hm2 cur E fz e)⟩,.inl (by omega),?_⟩
  ·have e0:(cs.take (i * 4) ++ vs).length=(i + 1) * 4:=by rw [List.length_append,List.length_take,hl,hvl,Nat.min_eq_left (by omega)]; omega
   have e2:row2.toList.take ((i + 1) * 4)=cs.take (i * 4) ++ vs:=by
    rw [hrow2,hRt]
    show (cs.take (i * 4) ++ vs ++ _).take ((i + 1) * 4)=_
    exact List.take_left' e0
   rw [hrow3,e2]
   show (cs.take (i * 4) ++ vs ++ cs.drop (i * 4) ++ _).take (cs.take (i * 4) ++ vs ++ cs.drop (i * 4)).length=_
   rw [List.take_left]
  ·have hd:=fP W2.drew N row3
   have ha:=fP W1 N row2
   rw [<- hW2] at ha
   rw [<- hW3] at hd
   refine ⟨hd.os.trans (ha.os.trans hx1.os),hd.tape.trans (ha.tape.trans hx1.tape),hd.output.trans (ha.output.trans hx1.output),Nat.le_trans hx1.size (Nat.le_trans ha.size hd.size),fun b hb _=>?_⟩
   rw [hW3,setRow_other _ _ _ _ (by omega)]
   exact hk2 b hb
 have mixed:Go.Proofs.Tryz.prog.follows .mixedOrders=true:=rfl
 have hnt:Go.Proofs.Tryz.f146.ntmps=95:=rfl
 have q1:¬ ((i:Int)=(n:Int)):=by omega
 have q2:(c:Int) < (n:Int) + 1:=by omega
 have q3:¬ (G=i):=by omega
 have q4:¬ (G=i + 1):=by omega
 have q5:¬ (c=i):=by omega
 have q6:i<=n:=by omega
 have q7:i<=c:=by omega
 have hw1:IntKind.i64.wrap ((i:Int) + (1:Int))=(i:Int) + (1:Int):=by rw [IntKind.wrap_i64]; omega
 have hb1:(0:Int)<=(i:Int) + (1:Int):=by omega
 have htn:((i:Int) + (1:Int)).toNat=i + 1:=by omega
 have hb3:(i:Int)<=(n:Int):=by omega
 have X1:Hid (∀ ty,(Builtin.append_ #[37,3] ty #[.slice (some ⟨g,0,none⟩) i c,.int .i64 ((n:Int) + (1:Int) - (i:Int))]).run Go.Proofs.Tryz.prog w=.ok (.slice (some ⟨N,0,none⟩) (n + 1) G) W1):=hrz
 have X2:Hid (∀ ty dc,(Builtin.copy_ #[37,37] ty #[.slice (some ⟨N,i * 4,none⟩) (n + 1 - i) dc,.slice (some va) 1 vc]).run Go.Proofs.Tryz.prog W1=.ok (goInt (Nat.min 1 (n + 1 - i))) W2):=hcpA
 have X3:Hid (∀ ty,(Builtin.copy_ #[37,37] ty #[.slice (some ⟨N,(i + 1) * 4,none⟩) (n + 1 - (i + 1)) (G - (i + 1)),.slice (some ⟨g,i * 4,none⟩) (n - i) (c - i)]).run Go.Proofs.Tryz.prog W2.drew=.ok (goInt (Nat.min (n - i) (n + 1 - (i + 1)))) W3):=hcpB
 clear hcpB X2 hrz hold hrow3 hrow2 hW1 hW2 hW3 hROW hRl hRt hc1 hm1 hx1 hRL h2s hc2 hm2 hk2 hc2d hdl hR2L h3s hmin hv h1 h1c hcell hcur hnm htk hsz hfit hva hvl hvl' hl hkk hik hG hN hgl hinf hsize hbytes hzero
 go_enter Go.Proofs.Tryz.func146,hnt
 go_wp2_with (first
  |(at_builtin; refine Lib.wpList_append_run _ rfl _ _ _ _ rfl _ _ rfl rfl _ _ (X1.out _) ?_)
  | fail)
 go_region_law_o (refine vW rfl _ _ 37 37 rfl _ _ (by simp [Act.eval,Act.put]) (by simp [Act.eval,Act.put]) (X3.out _) ?_)
 go_wp2
 go_ret
 exact ⟨_,rfl,hfin.out⟩
theorem aAr {P:Program} (w:World) (tS tR e:TypeId) (ht:P.underlying tS=some (.slice e)) (size:Nat) (hz:∀ w,(Go.sizeOf e).run P w=.ok size w)
  (a b:Addr) (la ca lb cb:Nat) (hne:a.block≠b.block) (tA tB:TypeId) (kA kB:Nat)
  (hsa:w.shape? a.block=some (tA,kA)) (hkA:kA≠0) (hsb:w.shape? b.block=some (tB,kB))
  (hfb:w.frozen? b=false) (hfe:w.frozen? { block:=b.block,off:=kB }=false) :
  (Extern.SlicesOverlaps.overlaps #[tS,tS] #[tR] #[.slice (some a) la ca,.slice (some b) lb cb]).run P w=.ok (.bool false) w:=by
 have hnb:(a.block != b.block)=true:=by simpa using hne
 have hnb':(a.block == b.block)=false:=by simpa using hne
 change Sem.run P (α := Value) (underlying tS >>= _) w = _
 by_cases h0:la=0\/lb=0\/size=0
 ·simp [run_underlying ht,hz,h0]
 ·cases kA with
  | zero=>exact absurd rfl hkA
  | succ kA =>
   cases h1:w.frozen? a<;>cases h2:w.frozen? { block:=a.block,off:=kA + 1 } <;>
    simp [run_underlying ht,hz,h0,hnb,hnb',frozen,noView,viewAt,mayBeOne,stringish,shape,Sem.run,hsa,hsb,hfb,hfe,h1,h2]
theorem aAH {w:World} {g:Nat} {cur:Array Value} {E:TypeId} (h:hZ w g cur E) (hn:lX w g) (k:Nat):w.frozen? ⟨g,k,none⟩=false:=by
 obtain ⟨fz,h1,_⟩:=h
 have:=hn _ _ _ h1
 obtain ⟨lo,hi⟩:=fz
 simp only [World.frozen?,h1,Bool.and_eq_false_iff,decide_eq_false_iff_not]
 simp only at this
 omega
theorem aHB {w:World} {g:Nat} {cur:Array Value} {E:TypeId} (h:hZ w g cur E):w.shape? g=some (E,cur.size):=by
 obtain ⟨fz,h1,_⟩:=h
 simp [World.shape?,h1]
theorem aDk {w:World} {a:Addr} {v:Value} (h:w.cell? a=some v):∃ t k,w.shape? a.block=some (t,k)/\k≠0:=by
 unfold World.cell? at h
 unfold World.shape?
 split at h
 ·rename_i c t fz hb
  split at h
  ·cases h
  ·refine ⟨t,c.size,rfl,fun e=>?_⟩
   have:=(Array.getElem?_eq_some_iff.1 h).1
   omega
 ·cases h
theorem aDy (g n c i vc:Nat) (va:Addr) (cs vs:List Value) (w:World) (hl:cs.length=n * 4) (hrow:aDm w g 4 (c * 4) cs) (hvl:vs.length=4) (hv:∀ j u,vs[j]?=some u->w.cell? (va.add j)=some u) (hvg:va.block≠g) (h1:∀ v∈vs,v.oneCell'=true) (h1c:∀ v∈cs,v.oneCell'=true) (hn:n<=1048576) (hi:i < n) (hroom:n + 1<=c) :
  Calls Go.Proofs.Tryz.prog 146 #[.slice (some ⟨g,0,none⟩) n c,.int .i64 i,.slice (some va) 1 vc] w fun e w'=>∃ v,e=.returned v/\x5 w 4 (some ⟨g,0,none⟩) c (n + 1) (cs.take (i * 4) ++ vs ++ cs.drop (i * 4)) v w':=by
 obtain ⟨inf,hinf,hsize,hbytes,hzero⟩:=aMV
 obtain ⟨⟨cur,E,hcur,hsz,htk⟩,hnm⟩:=hrow
 have hnm:=hnm (by decide)
 have hcl:cur.toList.length=cur.size:=by simp
 have hblk:∀ j,(va.add j).block=va.block:=fun j=>by unfold Addr.add; split<;>rfl
 have hvl':vs.length=Nat.min 1 (n + 1 - i) * inf.size:=by
  rw [hsize,hvl,show Nat.min 1 (n + 1 - i)=1 from Nat.min_eq_left (by omega)]
 obtain ⟨tA,kA,hsa,hkA⟩:∃ t k,w.shape? va.block=some (t,k)/\k≠0:=by
  obtain ⟨u,hu⟩:=dQ (show 0 < vs.length by omega)
  have:=aDk (hv 0 u hu)
  rwa [hblk] at this
 have hov:∀ lb cb,(callFunc 187 #[.slice (some va) 1 vc,.slice (some ⟨g,(i + 1) * 4,none⟩) lb cb]).run Go.Proofs.Tryz.prog w=.ok (.value (.bool false)) w:=fun lb cb=>by
  rw [run_callFunc_extern (by rfl:Go.Proofs.Tryz.prog.funcs[187]?=some Go.Proofs.Tryz.f187) (by kernel_rfl) (by kernel_rfl) (by kernel_rfl) (e:=Extern.SlicesOverlaps.overlaps #[37,37] #[4]) (by kernel_rfl),
   aAr w 37 4 115 sR 4 (fun w=>by simp [sizeOf,typeInfo,hinf,hsize]) va ⟨g,(i + 1) * 4,none⟩ 1 vc lb cb hvg tA E kA cur.size hsa hkA (aHB hcur) (aAH hcur hnm _) (aAH hcur hnm _)]
  rfl
 have hcurd:hZ w.drew g cur E:=hcur
 obtain ⟨row1,hrow1⟩:∃ row1,row1=(cur.toList.take ((i + 1) * 4) ++ cs.drop (i * 4) ++ cur.toList.drop ((i + 1) * 4 + (cs.drop (i * 4)).length)).toArray:=⟨_,rfl⟩
 obtain ⟨W1,hW1⟩:∃ W1,W1=w.drew.setRow g row1:=⟨_,rfl⟩
 have hdl:(cs.drop (i * 4)).length=(n - i) * 4:=by rw [List.length_drop,hl]; omega
 have h1s:row1.size=cur.size:=by
  rw [hrow1,List.size_toArray,List.length_append,List.length_append,List.length_take,List.length_drop,List.length_drop,hl,hcl,hsz]
  omega
 have hmin:Nat.min (n + 1 - i) (n + 1 - (i + 1))=n - i:=by
  have:n + 1 - (i + 1)=n - i:=by omega
  rw [this]; exact Nat.min_eq_right (by omega)
 have hcpB:∀ ty,(Builtin.copy_ #[37,37] ty #[.slice (some ⟨g,(i + 1) * 4,none⟩) (n + 1 - (i + 1)) (c - (i + 1)),.slice (some ⟨g,i * 4,none⟩) (n + 1 - i) (c - i)]).run Go.Proofs.Tryz.prog w.drew=.ok (goInt (Nat.min (n + 1 - i) (n + 1 - (i + 1)))) W1:=fun ty=>by
  rw [hW1,hrow1]
  refine oT sR hinf hcurd ⟨g,i * 4,none⟩ (n + 1 - i) (c - i) (cs.drop (i * 4)) (by rw [hdl,hmin,hsize]) (fun j u hu=>?_) (fun v hv=>h1c v (List.mem_of_mem_drop hv)) (by rw [hdl,hsz]; omega)
  rw [Addr.add_lit,hcurd.cell,<-Array.getElem?_toList]
  rw [List.getElem?_drop,<-htk,List.getElem?_take] at hu
  split at hu
  ·exact hu
  ·cases hu
 have hc1:hZ W1 g row1 E:=by rw [hW1]; exact hcurd.set h1s
 have hm1:lX W1 g:=by rw [hW1]; exact lX.set hcurd (fun cur E fz e=>hnm cur E fz e)
 have hR1L:row1.toList.length=row1.size:=by simp
 obtain ⟨row2,hrow2⟩:∃ row2,row2=(row1.toList.take (i * 4) ++ vs ++ row1.toList.drop (i * 4 + vs.length)).toArray:=⟨_,rfl⟩
 obtain ⟨W2,hW2⟩:∃ W2,W2=W1.setRow g row2:=⟨_,rfl⟩
 have h2s:row2.size=row1.size:=by
  rw [hrow2,List.size_toArray,List.length_append,List.length_append,List.length_take,List.length_drop,hvl,hR1L,h1s,hsz]
  omega
 have hcpA:∀ ty dc,(Builtin.copy_ #[37,37] ty #[.slice (some ⟨g,i * 4,none⟩) (n + 1 - i) dc,.slice (some va) 1 vc]).run Go.Proofs.Tryz.prog W1=.ok (goInt (Nat.min 1 (n + 1 - i))) W2:=fun ty dc=>by
  rw [hW2,hrow2]
  refine oT sR hinf hc1 va 1 vc vs hvl' (fun j u hu=>?_) h1 (by rw [hvl,h1s,hsz]; omega)
  rw [World.cell?_of_block (w:=w) (by rw [hblk,hW1,setRow_other _ _ _ _ hvg]; rfl)]
  exact hv j u hu
 have hfin:Hid (x5 w 4 (some ⟨g,0,none⟩) c (n + 1) (cs.take (i * 4) ++ vs ++ cs.drop (i * 4)) (.slice (some ⟨g,0,none⟩) (n + 1) c) W2):=by
  refine ⟨g,c,rfl,hroom,⟨⟨row2,E,by rw [hW2]; exact hc1.set h2s,by rw [h2s,h1s,hsz],?_⟩,fun _=>by rw [hW2]; exact hm1.set hc1⟩,.inr ⟨by omega,rfl⟩,?_⟩
  ·have ht:cur.toList.take (i * 4)=cs.take (i * 4):=aId htk (by rw [hl]; omega)
   have e1:row1.toList.take (i * 4)=cs.take (i * 4):=by
    rw [hrow1]
    show (cur.toList.take ((i + 1) * 4) ++ cs.drop (i * 4) ++ _).take (i * 4)=_
    rw [List.append_assoc,List.take_append_of_le_length (by rw [List.length_take,hcl,hsz]; omega),List.take_take,Nat.min_eq_left (by omega),ht]
   have e2:(row1.toList.drop (i * 4 + vs.length)).take ((n - i) * 4)=cs.drop (i * 4):=by
    rw [hrow1,hvl]
    show ((cur.toList.take ((i + 1) * 4) ++ cs.drop (i * 4) ++ _).drop (i * 4 + 4)).take ((n - i) * 4)=_
    rw [List.append_assoc,show i * 4 + 4=(i + 1) * 4 by omega,List.drop_left' (by rw [List.length_take,hcl,hsz]; omega)]
    exact List.take_left' hdl
   have hlt:(cs.take (i * 4)).length=i * 4:=by rw [List.length_take,hl]; omega
   rw [hrow2,e1]
   show (cs.take (i * 4) ++ vs ++ row1.toList.drop (i * 4 + vs.length)).take (cs.take (i * 4) ++ vs ++ cs.drop (i * 4)).length=_
   have el:(cs.take (i * 4) ++ vs ++ cs.drop (i * 4)).length=(cs.take (i * 4) ++ vs).length + (n - i) * 4:=by rw [List.length_append,hdl]
   rw [el,List.take_append,List.take_of_length_le (Nat.le_add_right _ _),Nat.add_sub_cancel_left,e2]
  ·have hd:=fP w.drew g row1
   have ha:=fP W1 g row2
   rw [<- hW1] at hd
   rw [<- hW2] at ha
   refine ⟨ha.os.trans hd.os,ha.tape.trans hd.tape,ha.output.trans hd.output,Nat.le_trans hd.size ha.size,fun b hb hx=>?_⟩
   have hbg:b≠g:=fun e=>hx ⟨by omega,by rw [e]⟩
   rw [hW2,setRow_other _ _ _ _ hbg,hW1,setRow_other _ _ _ _ hbg]
   rfl
 have mixed:Go.Proofs.Tryz.prog.follows .mixedOrders=true:=rfl
 have hnt:Go.Proofs.Tryz.f146.ntmps=95:=rfl
 have q1:¬ ((i:Int)=(n:Int)):=by omega
 have q2:¬ ((c:Int) < (n:Int) + 1):=by omega
 have q3:¬ (c=n):=by omega
 have q4:¬ (c=i + 1):=by omega
 have q5:¬ (c=i):=by omega
 have q6:i<=n:=by omega
 have q7:i<=c:=by omega
 have hw1:IntKind.i64.wrap ((i:Int) + (1:Int))=(i:Int) + (1:Int):=by rw [IntKind.wrap_i64]; omega
 have hw2:IntKind.i64.wrap ((n:Int) + (1:Int))=(n:Int) + (1:Int):=by rw [IntKind.wrap_i64]; omega
 have hb1:(0:Int)<=(i:Int) + (1:Int):=by omega
 have hb2:(0:Int)<=(n:Int) + (1:Int):=by omega
 have htn:((i:Int) + (1:Int)).toNat=i + 1:=by omega
 have htn2:((n:Int) + (1:Int)).toNat=n + 1:=by omega
 have hb3:(i:Int)<=(n:Int):=by omega
 have hb4:(n:Int) + 1<=(c:Int):=by omega
 have hb5:(i:Int) + 1<=(n:Int) + 1:=by omega
 have hb6:(i:Int)<=(n:Int) + 1:=by omega
 have X3:Hid (∀ ty,(Builtin.copy_ #[37,37] ty #[.slice (some ⟨g,(i + 1) * 4,none⟩) (n + 1 - (i + 1)) (c - (i + 1)),.slice (some ⟨g,i * 4,none⟩) (n + 1 - i) (c - i)]).run Go.Proofs.Tryz.prog w.drew=.ok (goInt (Nat.min (n + 1 - i) (n + 1 - (i + 1)))) W1):=hcpB
 clear hcpB hrow1 hrow2 hW1 hW2 hc1 hm1 h2s h1s hcurd hdl hR1L hmin hv h1 h1c hcur hnm htk hsz hvl hvl' hl hinf hsize hbytes hzero hcl hblk hsa hkA hvg
 go_enter Go.Proofs.Tryz.func146,hnt
 go_wp2_with (simp only [hov])
 go_region_law_o (refine vW rfl _ _ 37 37 rfl _ _ (by simp [Act.eval,Act.put]) (by simp [Act.eval,Act.put]) (X3.out _) ?_)
 go_wp2
 go_ret
 exact ⟨_,rfl,hfin.out⟩
theorem aGZ (a:Option Addr) (n c i vc:Nat) (va:Addr) (cs vs:List Value) (w:World) (h:aI9 w 4 a n c cs) (hvl:vs.length=4) (hv:∀ j u,vs[j]?=some u->w.cell? (va.add j)=some u) (hvg:a≠some ⟨va.block,0,none⟩) (h1:∀ v∈vs,v.oneCell'=true) (h1c:∀ v∈cs,v.oneCell'=true) (hn:n<=1048576) (hi:i<=n) :
  Calls Go.Proofs.Tryz.prog 146 #[.slice a n c,.int .i64 i,.slice (some va) 1 vc] w fun e w'=>∃ v,e=.returned v/\x5 w 4 a c (n + 1) (cs.take (i * 4) ++ vs ++ cs.drop (i * 4)) v w':=by
 by_cases hin:i=n
 ·subst hin
  have h2:=aAB a i c vc va cs vs w h hvl hv h1 hn
  rw [<- h.1,List.take_length,List.drop_length,List.append_nil]
  exact h2
 ·obtain ⟨hl,hc,h⟩:=h
  rcases h with rfl|⟨g,rfl,hrow⟩
  ·omega
  ·by_cases hroom:n + 1<=c
   ·exact aDy g n c i vc va cs vs w hl hrow hvl hv (fun e=>hvg (by rw [e])) h1 h1c hn (by omega) hroom
   ·exact aEE g n c i vc va cs vs w hl hc hrow hvl hv h1 h1c hn (by omega) (by omega)
theorem aCU (xs:List D) (y:D) (hs:∀ x∈xs,x.size=4) (hy:y.size=4) (i:Nat) (hi:i<=xs.length) (hn:xs.length<=1048576) :
  y7 prog 146 false (.sl true 4 (jC xs)) [.int .i64 i,.sl false 4 (.cons y .nil)] (fun x' rs=>(∃ u,x'=.lnk 0 u)/\rs=[.sl true 4 (jC (xs.take i ++ y :: xs.drop i))]):=by
 intro M oc vs w hM hob hnd hlt hG hr
 obtain ⟨_,us1,f1,f2,rfl,e0,⟨rfl,rfl⟩,cv,us2,f3,f4,rfl,e1,hsv,rfl,rfl⟩:=hr
 have e1':f3=[]:=by
  rw [e1] at e0
  simpa using e0.symm
 subst e1'
 obtain ⟨_,av,vc,dv,fpv,rfl,hvc,hv3,hv4⟩:=hsv
 simp only [Bool.false_eq_true,if_false] at hv4
 obtain ⟨rfl,_,hv5⟩:=hv4
 obtain ⟨y1,y2,p1,p2,rfl,e2,hyr,rfl,rfl⟩:=hv3
 have e2':p1=[]:=by simpa using e2.symm
 subst e2'
 rw [List.append_nil] at hv5
 have hyl:y1.length=4:=by rw [dJ _ _ _ hyr,hy]
 have hy1:=oV _ _ _ hyr
 rcases hv5 with hv5|⟨va,rfl,hH⟩
 ·exact absurd hv5 (by simp [D.len])
 rcases hH with hH|⟨hvb,hvM,hvcell⟩
 ·rw [hH] at hyl; simp at hyl
 obtain ⟨cs0,hrep,hv⟩:=hob
 obtain ⟨hL,a,c,ds,fps,rfl,hc,h3,h4⟩:=hrep
 rw [eX] at hc hv
 simp only [if_true] at h4
 have hone:=oV _ _ _ h3
 have hdl:ds.length=xs.length * 4:=by rw [dJ _ _ _ h3,j8 _ hs]
 have hv':mkV false oc=.slice a xs.length c:=by
  show oc.v=_
  rw [hv]; rfl
 rw [hv']
 have hO:aI9 w 4 a xs.length c ds:=⟨hdl,hc,h4.imp (fun h=>h.1) fun ⟨g,h1,h2,_⟩=>⟨g,h1,h2⟩⟩
 have hag:∀ b,c≠0/\a=some ⟨b,0,none⟩->oc.fp=b :: fps:=fun b hb=>by
  rcases h4 with ⟨h,_⟩|⟨g,h1,_,h2⟩
  ·exact absurd h hb.1
  ·have h3:=hb.2
   rw [h1] at h3
   injection h3 with h3
   injection h3 with h3
   rw [h2,<-h3]
 have hfpo:∀ b∈fps,b∈oc.fp:=fun b hb=>by
  rcases h4 with ⟨_,h,_⟩|⟨g,_,_,h2⟩
  ·rw [h] at hb; cases hb
  ·rw [h2]; simp [hb]
 have hfpn:fps.Nodup:=by
  rcases h4 with ⟨_,h,_⟩|⟨g,_,_,h2⟩
  ·rw [h]; exact List.nodup_nil
  ·rw [h2] at hnd; exact (List.nodup_cons.1 hnd).2
 have h3':=h3
 rw [<- List.take_append_drop i xs] at h3'
 obtain ⟨c1,c2,q1,q2,ed,ef,r1,r2⟩:=(fN _ _ _ _).1 h3'
 have l1:c1.length=i * 4:=by
  rw [dJ _ _ _ r1,j8 _ (fun y hy=>hs y (List.mem_of_mem_take hy)),List.length_take,Nat.min_eq_left (by omega)]
 have t1:ds.take (i * 4)=c1:=by rw [ed,<-l1,List.take_left]
 have t2:ds.drop (i * 4)=c2:=by rw [ed,<-l1,List.drop_left]
 have hcall:Calls Go.Proofs.Tryz.prog 146 #[.slice a xs.length c,.int .i64 i,.slice (some va) 1 vc] w fun e w'=>∃ v,e=.returned v/\x5 w 4 a c (xs.length + 1) (c1 ++ y1 ++ c2) v w':=by
  rw [<- t1,<-t2]
  by_cases hin:i=xs.length
  ·have h2:=aAB a xs.length c vc va ds y1 w hO hyl hvcell hy1 hn
   rw [hin,<-hdl,List.take_length,List.drop_length,List.append_nil]
   exact h2
  ·refine aGZ a xs.length c i vc va ds y1 w hO hyl hvcell (fun h=>hvM (.inr ?_)) hy1 hone hn hi
   rw [hag va.block ⟨by omega,h⟩]; simp
 refine hcall.mono ?_
 rintro e w' ⟨v,rfl,g,c',rfl,k1,k2,k3,k4⟩
 have hgn:g ∉ fps:=fun h=>by
  rcases k3 with k3|k3
  ·have:=(hlt g (hfpo g h)).1; omega
  ·rw [hag g k3] at hnd; exact (List.nodup_cons.1 hnd).1 h
 have hsub:∀ b∈g :: fps,(b∈oc.fp\/w.heap.size<=b):=fun b hb=>by
  rcases List.mem_cons.1 hb with rfl|hb
  ·rcases k3 with k3|k3
   ·exact .inr k3
   ·rw [hag b k3]; exact .inl (by simp)
  ·exact .inl (hfpo b hb)
 have hgw:g < w'.heap.size:=k2.lt
 have keep:∀ b,b < w.heap.size->(b∈fps\/¬ (M b\/b∈oc.fp))->w'.heap[b]?=w.heap[b]?:=fun b hb hx=>by
  refine k4.kept b hb fun e=>?_
  have hfp:=hag b e
  rcases hx with hx|hx
  ·rw [hfp] at hnd; exact (List.nodup_cons.1 hnd).1 hx
  ·exact hx (.inr (by rw [hfp]; simp))
 have hMs:∀ b,b < w.heap.size->(M b\/b∈[] ++ (g :: fps))->(M b\/b∈oc.fp):=fun b hb h=>by
  rcases h with h|h
  ·exact .inl h
  ·rcases hsub b (by simpa using h) with h|h
   ·exact .inr h
   ·omega
 have frame:∀ (q:D) (cs:List Value) (p:List Nat),(∀ b∈p,b∈fps)->q.rep w (fun b=>M b\/b∈oc.fp) cs p->q.rep w' (fun b=>M b\/b∈[] ++ (g :: fps)) cs p:=fun q cs p hp hq =>
  eC k4.size hMs _ _ _ (fun b hb hx=>keep b hb (hx.imp (hp b) id)) hq
 have hq1:∀ b∈q1,b∈fps:=fun b hb=>by rw [ef]; simp [hb]
 have hq2:∀ b∈q2,b∈fps:=fun b hb=>by rw [ef]; simp [hb]
 have hl':(xs.take i ++ y :: xs.drop i).length=xs.length + 1:=by simp; omega
 refine ⟨.lnk 0 oc.v,_,[.slice (some ⟨g,0,none⟩) (xs.length + 1) c'],[],g :: fps,rfl,⟨⟨_,rfl⟩,rfl⟩,⟨[oc.v],⟨rfl,by rw [hv]; rfl,rfl⟩,rfl⟩,?_,?_,fun b hb=>?_,?_⟩
 ·refine ⟨[.slice (some ⟨g,0,none⟩) (xs.length + 1) c'],[],g :: fps,[],rfl,by simp,⟨(iU _).2 fun x hx=>?_,some ⟨g,0,none⟩,c',c1 ++ (y1 ++ c2),fps,by rw [eX,hl'],by rw [eX,hl']; exact k1,?_,?_⟩,rfl,rfl⟩
  ·rcases List.mem_append.1 hx with hx|hx
   ·exact hs x (List.mem_of_mem_take hx)
   ·rcases List.mem_cons.1 hx with rfl|hx
    ·exact hy
    ·exact hs x (List.mem_of_mem_drop hx)
  ·refine (fN _ _ _ _).2 ⟨c1,y1 ++ c2,q1,q2,rfl,ef,frame _ _ _ hq1 r1,⟨y1,c2,[],q2,rfl,rfl,frame _ _ _ (fun _ h=>by cases h) hyr,frame _ _ _ hq2 r2⟩⟩
  ·simp only [if_true]
   exact .inr ⟨g,rfl,by rw [<- List.append_assoc]; exact k2,rfl⟩
 ·simpa using List.nodup_cons.2 ⟨hgn,hfpn⟩
 ·have hb':b∈g :: fps:=by simpa using hb
  refine ⟨hsub b hb',?_⟩
  rcases List.mem_cons.1 hb' with rfl|h
  ·exact hgw
  ·have:=(hlt b (hfpo b h)).1
   have:=k4.size
   omega
 ·exact ⟨k4.os,k4.tape,k4.output,k4.size,fun b hb hx=>k4.kept b hb fun e=>hx (by rw [hag b e]; simp)⟩
end Go.Pe.Tryz
namespace Go.Pe.Tryz
open Nat (reduceEqDiff reduceAdd reduceSub reduceLT)
open Go.Proofs.Tryz
end Go.Pe.Tryz
