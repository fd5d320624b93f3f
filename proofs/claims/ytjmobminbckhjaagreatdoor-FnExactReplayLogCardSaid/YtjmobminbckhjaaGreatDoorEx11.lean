/- The law of ReplayLog, walked. -/
import Derived.Test.YtjmobminbckhjaaGreatDoorW6
import Derived.Test.YtjmobminbckhjaaGreatDoorPeD
import Derived.Test.YtjmobminbckhjaaGreatDoorMc1
import Derived.Test.YtjmobminbckhjaaGreatDoorMc2
import Derived.Test.YtjmobminbckhjaaGreatDoorMc3
import Derived.Test.YtjmobminbckhjaaGreatDoorMc4
import Derived.Test.YtjmobminbckhjaaGreatDoorMc5
import Derived.Test.YtjmobminbckhjaaGreatDoorMc6
import Derived.Test.YtjmobminbckhjaaGreatDoorMc7
import Derived.Test.YtjmobminbckhjaaGreatDoorMc8
set_option maxRecDepth 100000
set_option maxHeartbeats 4000000
set_option linter.all false
open Nat renaming reduceEqDiff->aA, reduceAdd->aB, reduceSub->aC, reduceLT->aD
namespace Go.Pe.Tryz
open Go.Proofs.Tryz Go.Sort
theorem lawReplay_fn (day:Int) (d p:List UInt8) (c:Int) (hd:d.length<=maxLen) (hp:p.length<=maxLen):Fn prog 3 [.int .i64 day,eQ d p c] (fun rs=>rs=[.bool true]):=by
 refine cW ef3 [] ?_
 dsimp only [ef3,m3,rF,cS,cE,cR,c8]
 try simp only [wQ]
 repeat' (first|(simp only [gK,↓jK,cK,↓wA,↓wC,wB,aA,aB,reduceIte,reduceCtorEq])|((first|apply cH|apply cI|apply cG)<;>intro h<;>try simp only [h]))
 refine aCd (aJO d p c 1048576 (by decide) (by decide) hd hp) rfl fun rs h=>?_
 obtain ⟨m,rfl,m1,m2,m3⟩:=h
 refine ⟨.inl rfl,?_⟩
 cases hm:decide (m < 0) with
 | true =>
  repeat' (first|(simp only [hm,↓wA,↓wC,wB,aA,reduceIte,reduceCtorEq])|((first|apply cH|apply cI|apply cG)<;>intro h<;>try simp only [h]))
 | false =>
  have hm':=of_decide_eq_false hm
  have hl:=m3 (by omega)
  have hT:=aMZ d p c
  have hS:=aDc day d p c hl
  have hI:=aC2 day d p c hl
  have hR:∃ (n:Int) (b:Bool),rpR day d p c=[.int .i64 n,.bool b]:=by
   unfold rpR
   split<;>exact ⟨_,_,rfl⟩
  obtain ⟨n,b,hR⟩:=hR
  rw [hR] at hS hI
  have hbb:(b == b)=true:=by cases b<;>rfl
  have hnn:decide (n=n)=true:=decide_eq_true rfl
  repeat' (first|(simp only [hm,hbb,fD,↓jK,cK,↓wA,↓wC,wB,aA,aB,reduceIte,reduceCtorEq])|(refine cJ hT rfl rfl ?_)|(refine cL hT rfl rfl ?_)|(refine cJ hS rfl rfl ?_)|(refine cJ hI rfl rfl ?_)|(refine cL hS rfl rfl ?_)|(refine cL hI rfl rfl ?_)|((first|apply cH|apply cI|apply cG)<;>intro h<;>try simp only [h]))
  all_goals trace_state
theorem lawReplay (x0 x1:D) (h0:mB (.int .i64) x0) (h1:mB logShC x1):Fn prog 3 [x0,x1] (fun rs=>rs=[.bool true]):=by
 obtain ⟨n,rfl,_⟩:=h0
 obtain ⟨_,rfl,_,_,rfl,⟨d,rfl,hd⟩,_,_,rfl,⟨p,rfl,hp⟩,_,_,rfl,⟨c,rfl,_⟩,rfl⟩:=h1
 exact lawReplay_fn n d p c hd hp
end Go.Pe.Tryz
