/- Valid offices, walked; Is it an office? walked, and the law; Consoles: an office and a log; sizes, copies, equality; are they valid? walked, and the law; Texts of cases (strings.Join, decimals, caseText, l25Text), walked; The text of a console, walked, and the law of FormatConsole; A case of an office by its number, its text, walked; the law of CaseText; Marks on lists of numbers, walked; Marks as text: on lists of texts, walked; Marks on offices, walked; The cases of an office of which something is so; those that are due, blocked, held; walked; The cases of an office with a hold: the reference, walked; the law of HeldCases; Roots of ledgers: hashes, rounds (the reference's), walked; Roots of ledgers: the loops, walked (the program's round is taken as told: roundOK); The root of an office's ledger, walked (the program's round as told: roundOK); The library's iterator over the pieces of a slice of numbers, two at a time: its contract; The program's round: the body of its loop, walked; what it is behind the loop -/
import Derived.Test.YtjmobminbckhjabGreatDoorW1
import Derived.Test.YtjmobminbckhjabGreatDoorPeD
import Derived.Test.YtjmobminbckhjabGreatDoorMc1
import Derived.Test.YtjmobminbckhjabGreatDoorMc2
import Derived.Test.YtjmobminbckhjabGreatDoorMc3
import Derived.Test.YtjmobminbckhjabGreatDoorMc4
import Derived.Test.YtjmobminbckhjabGreatDoorMc5
import Derived.Test.YtjmobminbckhjabGreatDoorMc6
import Derived.Test.YtjmobminbckhjabGreatDoorMc7
import Derived.Test.YtjmobminbckhjabGreatDoorMc8
import Derived.RangeFuncNested
import Derived.RangeFuncBound
import Derived.RangeFuncCalls
import Derived.RangeFuncBox
import Derived.RangeFuncLeaves
import Derived.Shelf.Abstract
import Derived.Shelf.RegionOpen
import Derived.RegionTactic
import Derived.RegionIn
import Derived.WalkKit
import Derived.OwnWalkIn
import Derived.TacticsInMore
import Derived.LoopNIn
import Derived.LoopIn
import Derived.Test.YtjmobminbckhjabGreatDoorProg
set_option maxRecDepth 100000
set_option maxHeartbeats 4000000
set_option linter.all false
namespace Go.Pe.Tryz
open Nat (reduceEqDiff reduceAdd reduceSub reduceLT)
open Go.Proofs.Tryz
theorem zX (n:Nat):dE (n:Int) 1 40=true->0 < n/\n<=40:=by
 intro h
 simp only [dE,Bool.and_eq_true,decide_eq_true_eq] at h
 omega
theorem aEH (s:List UInt8):Fn prog 127 [.str s] (fun rs=>rs=[.bool (lV s)]):=by
 unfold lV
 cases hw:dE (s.length:Int) 1 40 with
 | false =>
  have hW:=fL (s.length:Int) 1 40
  rw [hw] at hW
  refine c7 aLC [] ?_
  dsimp only [aLC,cY,dD]
  repeat' (first|(simp only [↓wA,↓wC,wB,cQ,cP,reduceEqDiff,reduceAdd,reduceSub,reduceIte,reduceCtorEq,Nat.reduceBEq,reduceLT])|(refine cO (hW) rfl rfl ?_)|(refine cR (hW) rfl rfl ?_)|((first|apply cJ|apply cK|apply cI)<;>intro h<;>try simp only [h]))
  all_goals rfl
 | true =>
  have hW:=fL (s.length:Int) 1 40
  rw [hw] at hW
  have hl:=zX _ hw
  have hT:=aSk s hl.1 (by omega)
  have he:decide (rQ jI (rF jI s)=[])=s.all eB:=by
   have h1:=aPD jI s
   have h2:(s.all fun b=>jI.contains b)=s.all eB:=by
    congr 1
    funext b
    exact aVT b
   rw [h2] at h1
   cases hb:s.all eB with
   | true=>exact decide_eq_true (h1.2 hb)
   | false=>exact decide_eq_false (fun h=>by rw [h1.1 h] at hb; cases hb)
  simp only [jI] at hT he
  refine c7 aLC [] ?_
  dsimp only [aLC,cY,dD]
  repeat' (first|(simp only [↓wA,↓wC,wB,cQ,cP,reduceEqDiff,reduceAdd,reduceSub,reduceIte,reduceCtorEq,Nat.reduceBEq,reduceLT])|(refine cO (hW) rfl rfl ?_)|(refine cR (hW) rfl rfl ?_)|(refine cO (hT) rfl rfl ?_)|(refine cR (hT) rfl rfl ?_)|((first|apply cJ|apply cK|apply cI)<;>intro h<;>try simp only [h]))
  all_goals exact congrArg (fun b=>[D.bool b]) he
theorem aG7 (b:UInt8):Fn prog 196 [.int .u8 (b.toNat:Int)] (fun rs=>rs=[.bool (dE (b.toNat:Int) 97 122)]):=by
 refine c7 aUc [] ?_
 dsimp only [aUc,cY,dD]
 repeat' (first|(simp only [↓wA,↓wC,wB,cQ,cP,reduceEqDiff,reduceAdd,reduceSub,reduceIte,reduceCtorEq,Nat.reduceBEq,reduceLT])|((first|apply cJ|apply cK|apply cI)<;>intro h<;>try simp only [h]))
 all_goals first|(simp_all [dE]; done)|(simp_all [dE]; intros; omega)
theorem aHs (s:List UInt8) (hl:s.length<=1048576):Fn prog 159 [.str s] (fun rs=>rs=[.bool (lV s)]):=by
 have hW:=jL (s.length:Int) 1 40
 unfold lV
 refine c7 aUe [] ?_
 dsimp only [aUe,cY,dD]
 repeat' (first|(simp only [cM,↓wA,↓wC,wB,cQ,cP,reduceEqDiff,reduceAdd,reduceSub,reduceIte,reduceCtorEq,Nat.reduceBEq,reduceLT])|((first|apply cJ|apply cK|apply cI)<;>intro h<;>try simp only [h]))
 refine dU s.length (fun i:Nat=>⟨[(0,.d (.str s)),(3,.d (.int .i64 i))],[]⟩) (fun i=>∀ j b,j < i->s[j]?=some b->eB b=true) (cX _ rfl ⟨⟨rfl,rfl⟩,⟨rfl,rfl⟩,trivial⟩) (fun j r hj=>by omega) ?_ ?_
 ·intro i hlt hinv hd h0
  obtain ⟨b,hb⟩:=dS hlt
  have hL:=aG7 b
  have hbad:eB b=false->(dE (s.length:Int) 1 40 && s.all eB)=false:=by
   intro h
   have:s.all eB=false:=List.all_eq_false.2 ⟨b,List.mem_of_getElem? hb,by rw [h]; simp⟩
   rw [this,Bool.and_false]
  have hgood:eB b=true->∀ j c,j < i + 1->s[j]?=some c->eB c=true:=by
   intro h j c hj hc
   by_cases e:j=i
   ·subst e; rw [hb] at hc; injection hc with hc; rw [<- hc]; exact h
   ·exact hinv j c (by omega) hc
  cases hlt1:dE (b.toNat:Int) 97 122 with
  | true =>
   rw [hlt1] at hL
   have hg:=hgood (by unfold eB; rw [hlt1]; rfl)
   repeat' (first|(simp only [cM,hd,h0,hb,Int.toNat_natCast,↓wA,↓wC,wB,cQ,cP,reduceEqDiff,reduceAdd,reduceSub,reduceIte,reduceCtorEq,Nat.reduceBEq,reduceLT])|(refine cO (hL) rfl rfl ?_)|(refine cR (hL) rfl rfl ?_)|(with_reducible refine cV ?_ ?_; focus (simp only [eA]; omega))|((first|apply cJ|apply cK|apply cI)<;>intro h<;>try simp only [h]))
   all_goals exact fZ (cX _ rfl ⟨⟨rfl,rfl⟩,⟨rfl,rfl⟩,trivial⟩) hlt hg
  | false =>
   rw [hlt1] at hL
   repeat' (first|(simp only [cM,hd,h0,hb,Int.toNat_natCast,↓wA,↓wC,wB,cQ,cP,reduceEqDiff,reduceAdd,reduceSub,reduceIte,reduceCtorEq,Nat.reduceBEq,reduceLT])|(refine cO (hL) rfl rfl ?_)|(refine cR (hL) rfl rfl ?_)|(with_reducible refine cV ?_ ?_; focus (simp only [eA]; omega))|((first|apply cJ|apply cK|apply cI)<;>intro h<;>try simp only [h]))
   all_goals first
    |(refine fZ (cX _ rfl ⟨⟨rfl,rfl⟩,⟨rfl,rfl⟩,trivial⟩) hlt (hgood ?_); focus (clear hL hW hgood hbad; simp_all [eB,dE]; done))
    |(refine (congrArg (fun x=>[D.bool x]) (hbad ?_)).symm; focus (clear hL hW hgood hbad; simp_all [eB,dE]; done))
    |(refine (congrArg (fun x=>[D.bool x]) (hbad ?_)).symm; focus (clear hL hW hgood hbad hinv; simp_all [eB,dE]; intros; omega))
    |(refine (congrArg (fun x=>[D.bool x]) (hbad ?_)).symm; focus (clear hL hW hgood hbad hinv; simp_all [eB,dE]; omega))
    | trace_state
 ·intro hinv hd
  have:s.all eB=true:=List.all_eq_true.2 fun b hb=>by
   obtain ⟨j,hj⟩:=List.getElem?_of_mem hb
   exact hinv j b (c6 hj) hj
  rw [this,Bool.and_true]
  repeat' (first|(simp only [cM,hd,↓wA,↓wC,wB,cQ,cP,reduceEqDiff,reduceAdd,reduceSub,reduceIte,reduceCtorEq,Nat.reduceBEq,reduceLT])|(refine cO (hW) rfl rfl ?_)|(refine cR (hW) rfl rfl ?_)|((first|apply cJ|apply cK|apply cI)<;>intro h<;>try simp only [h]))
def e9 (L:List (List UInt8)):Bool:=dE L.length 1 8 && L.all lV
theorem aIK (s:List UInt8):Fn prog 126 [.str s] (fun rs=>rs=[.bool (!lV s)]):=by
 refine c7 aUt [] ?_
 dsimp only [aUt,cY,dD]
 repeat' (first|(simp only [↓wA,↓wC,wB,cQ,cP,reduceEqDiff,reduceAdd,reduceSub,reduceIte,reduceCtorEq,Nat.reduceBEq,reduceLT])|(refine cO (aEH s) rfl rfl ?_)|(refine cR (aEH s) rfl rfl ?_)|((first|apply cJ|apply cK|apply cI)<;>intro h<;>try simp only [h]))
theorem aET (p:(List UInt8)->Bool) (g:Nat) (c:D) (xs:List (List UInt8)) (hc:c.caps=true) (he:g8 prog.P g=true) (hlen:xs.length<=1048576) (hp:∀ x∈xs,Fn prog g (D.str x :: c.list) (fun rs=>rs=[.bool (p x)])) :
  Fn prog 164 [.sl false 1 (dl D.str xs),.clo g c] (fun rs=>rs=[.int .i64 (mD p xs)]):=by
 refine c7 aTr [] ?_
 dsimp only [aTr,cY,dD]
 simp only [cU,↓wA,↓wC,wB,cQ,cP,reduceEqDiff,reduceAdd,reduceSub,reduceIte,reduceCtorEq,Nat.reduceBEq,reduceLT]
 refine dU xs.length (fun i:Nat=>⟨[(0,.d (.sl false 1 (dl D.str xs))),(1,.d (.clo g c)),(7,.d (.int .i64 xs.length)),(8,.d (.int .i64 i))],[]⟩) (fun i=>∀ j r,j < i->xs[j]?=some r->p r=false) (cX _ rfl ⟨⟨rfl,rfl⟩,⟨rfl,rfl⟩,⟨rfl,rfl⟩,⟨rfl,rfl⟩,trivial⟩) (fun j r hj=>by omega) ?_ ?_
 ·intro i hlt hinv hd h0
  obtain ⟨r,hr⟩:=dS hlt
  have hcl:=hp r (List.mem_of_getElem? hr)
  simp only [hd,h0,dC,Int.toNat_natCast,hr,Option.map_some,cM,↓aPL,↓wA,↓wC,wB,cQ,cP,reduceEqDiff,reduceAdd,reduceSub,reduceIte,reduceCtorEq,Nat.reduceBEq,reduceLT]
  refine xS (ds:=[D.str r]) hcl he hc (by simp [dH,dQ,l9,D.str]) rfl ?_
  cases hpr:p r with
  | true =>
   simp only [↓wA,↓wC,wB,cQ,cP,reduceEqDiff,reduceAdd,reduceSub,reduceIte,reduceCtorEq,Nat.reduceBEq,reduceLT]
   rw [tT hr hpr hinv]
  | false =>
   simp only [↓wA,↓wC,wB,cQ,cP,reduceEqDiff,reduceAdd,reduceSub,reduceIte,reduceCtorEq,Nat.reduceBEq,reduceLT]
   refine cV (by simp only [eA]; omega) ?_
   refine fZ (cX _ rfl ⟨⟨rfl,rfl⟩,⟨rfl,rfl⟩,⟨rfl,rfl⟩,⟨rfl,rfl⟩,trivial⟩) hlt fun j s hj hs=>?_
   by_cases e:j=i
   ·subst e; rw [hr] at hs; injection hs with hs; rw [<- hs]; exact hpr
   ·exact hinv j s (by omega) hs
 ·intro hinv hd
  simp only [hd,↓wA,↓wC,wB,cQ,cP,reduceEqDiff,reduceAdd,reduceSub,reduceIte,reduceCtorEq,Nat.reduceBEq,reduceLT]
  rw [rM fun j r hj=>hinv j r (c6 hj) hj]
theorem aBt (p:(List UInt8)->Bool) (g:Nat) (c:D) (xs:List (List UInt8)) (hc:c.caps=true) (he:g8 prog.P g=true) (hlen:xs.length<=1048576) (hp:∀ x∈xs,Fn prog g (D.str x :: c.list) (fun rs=>rs=[.bool (p x)])) :
  Fn prog 125 [.sl false 1 (dl D.str xs),.clo g c] (fun rs=>rs=[.bool (xs.any p)]):=by
 refine c7 aTu [] ?_
 dsimp only [aTu,cY,dD]
 simp only [↓wA,↓wC,wB,cQ,cP,reduceEqDiff,reduceAdd,reduceSub,reduceIte,reduceCtorEq,Nat.reduceBEq,reduceLT]
 refine cO (aET p g c xs hc he hlen hp) rfl rfl ?_
 simp only [t7,↓wA,↓wC,wB,cQ,cP,reduceEqDiff,reduceAdd,reduceSub,reduceIte,reduceCtorEq,Nat.reduceBEq,reduceLT]
theorem aB9 (L:List (List UInt8)) (hl:L.length<=1048576):Fn prog 87 [.sl false 1 (dl D.str L)] (fun rs=>rs=[.bool (e9 L)]):=by
 have hW:=fL (L.length:Int) 1 8
 have hC:=aBt (fun s=>!lV s) 126 .nil L rfl aXf hl (fun s _=>aIK s)
 rw [aKU] at hC
 unfold e9
 cases hw:dE (L.length:Int) 1 8 with
 | false =>
  rw [hw] at hW
  refine c7 aQ1 [] ?_
  dsimp only [aQ1,cY,dD]
  repeat' (first|(simp only [cU,↓wA,↓wC,wB,cQ,cP,reduceEqDiff,reduceAdd,reduceSub,reduceIte,reduceCtorEq,Nat.reduceBEq,reduceLT])|(refine cO (hW) rfl rfl ?_)|(refine cR (hW) rfl rfl ?_)|((first|apply cJ|apply cK|apply cI)<;>intro h<;>try simp only [h]))
  all_goals rfl
 | true =>
  rw [hw] at hW
  refine c7 aQ1 [] ?_
  dsimp only [aQ1,cY,dD]
  repeat' (first|(simp only [cU,↓wA,↓wC,wB,cQ,cP,reduceEqDiff,reduceAdd,reduceSub,reduceIte,reduceCtorEq,Nat.reduceBEq,reduceLT])|(refine cO (hW) rfl rfl ?_)|(refine cR (hW) rfl rfl ?_)|(refine cO (hC) rfl rfl ?_)|(refine cR (hC) rfl rfl ?_)|((first|apply cJ|apply cK|apply cI)<;>intro h<;>try simp only [h]))
  all_goals simp
theorem aJr (L:List (List UInt8)) (hl:L.length<=1048576) (hx:∀ s∈L,s.length<=1048576):Fn prog 116 [.sl false 1 (dl D.str L)] (fun rs=>rs=[.bool (e9 L)]):=by
 have hW:=jL (L.length:Int) 1 8
 unfold e9
 refine c7 aUJ [] ?_
 dsimp only [aUJ,cY,dD]
 repeat' (first|(simp only [cM,↓wA,↓wC,wB,cQ,cP,reduceEqDiff,reduceAdd,reduceSub,reduceIte,reduceCtorEq,Nat.reduceBEq,reduceLT])|((first|apply cJ|apply cK|apply cI)<;>intro h<;>try simp only [h]))
 refine dU L.length (fun i:Nat=>⟨[(0,.d (.sl false 1 (dl D.str L))),(3,.d (.int .i64 i))],[]⟩) (fun i=>∀ j b,j < i->L[j]?=some b->lV b=true) (cX _ rfl ⟨⟨rfl,rfl⟩,⟨rfl,rfl⟩,trivial⟩) (fun j r hj=>by omega) ?_ ?_
 ·intro i hlt hinv hd h0
  obtain ⟨b,hb⟩:=dS hlt
  have hE:=aHs b (hx b (List.mem_of_getElem? hb))
  cases hbo:lV b with
  | false =>
   rw [hbo] at hE
   have:L.all lV=false:=List.all_eq_false.2 ⟨b,List.mem_of_getElem? hb,by rw [hbo]; simp⟩
   rw [this,Bool.and_false]
   repeat' (first|(simp only [cM,cU,dC,hd,h0,hb,Int.toNat_natCast,Option.map_some,↓wA,↓wC,wB,cQ,cP,reduceEqDiff,reduceAdd,reduceSub,reduceIte,reduceCtorEq,Nat.reduceBEq,reduceLT])|(refine cO (hE) rfl rfl ?_)|(refine cR (hE) rfl rfl ?_)|(with_reducible refine cV ?_ ?_; focus (simp only [eA]; omega))|((first|apply cJ|apply cK|apply cI)<;>intro h<;>try simp only [h]))
  | true =>
   rw [hbo] at hE
   repeat' (first|(simp only [cM,cU,dC,hd,h0,hb,Int.toNat_natCast,Option.map_some,↓wA,↓wC,wB,cQ,cP,reduceEqDiff,reduceAdd,reduceSub,reduceIte,reduceCtorEq,Nat.reduceBEq,reduceLT])|(refine cO (hE) rfl rfl ?_)|(refine cR (hE) rfl rfl ?_)|(with_reducible refine cV ?_ ?_; focus (simp only [eA]; omega))|((first|apply cJ|apply cK|apply cI)<;>intro h<;>try simp only [h]))
   refine fZ (cX _ rfl ⟨⟨rfl,rfl⟩,⟨rfl,rfl⟩,trivial⟩) hlt fun j c hj hc=>?_
   by_cases e:j=i
   ·subst e; rw [hb] at hc; injection hc with hc; rw [<- hc]; exact hbo
   ·exact hinv j c (by omega) hc
 ·intro hinv hd
  have:L.all lV=true:=List.all_eq_true.2 fun b hb=>by
   obtain ⟨j,hj⟩:=List.getElem?_of_mem hb
   exact hinv j b (c6 hj) hj
  rw [this,Bool.and_true]
  repeat' (first|(simp only [cM,cU,hd,↓wA,↓wC,wB,cQ,cP,reduceEqDiff,reduceAdd,reduceSub,reduceIte,reduceCtorEq,Nat.reduceBEq,reduceLT])|(refine cO (hW) rfl rfl ?_)|(refine cR (hW) rfl rfl ?_)|((first|apply cJ|apply cK|apply cI)<;>intro h<;>try simp only [h]))
def gS (x:Cs):Bool:=dE x.i 1 999 && dE x.a 1 3 && dE x.d 0 20000 && decide ((x.h.length:Int)<=5) && (x.h.all (fun n=>dE n 1 9) && qA x.h)
theorem aE5 (n:Int):Fn prog 128 [.int .i64 n] (fun rs=>rs=[.bool (dE n 1 999)]):=by
 refine c7 aT9 [] ?_
 dsimp only [aT9,cY,dD]
 repeat' (first|(simp only [↓wA,↓wC,wB,cQ,cP,reduceEqDiff,reduceAdd,reduceSub,reduceIte,reduceCtorEq,Nat.reduceBEq,reduceLT])|(refine cO (fL _ _ _) rfl rfl ?_)|(refine cR (fL _ _ _) rfl rfl ?_)|((first|apply cJ|apply cK|apply cI)<;>intro h<;>try simp only [h]))
theorem aQf (n:Int):Fn prog 129 [.int .i64 n] (fun rs=>rs=[.bool (dE n 1 3)]):=by
 refine c7 aUE [] ?_
 dsimp only [aUE,cY,dD]
 repeat' (first|(simp only [↓wA,↓wC,wB,cQ,cP,reduceEqDiff,reduceAdd,reduceSub,reduceIte,reduceCtorEq,Nat.reduceBEq,reduceLT])|(refine cO (fL _ _ _) rfl rfl ?_)|(refine cR (fL _ _ _) rfl rfl ?_)|((first|apply cJ|apply cK|apply cI)<;>intro h<;>try simp only [h]))
theorem vX (n:Int):Fn prog 133 [.int .i64 n] (fun rs=>rs=[.bool (dE n 1 9)]):=by
 refine c7 aK8 [] ?_
 dsimp only [aK8,cY,dD]
 repeat' (first|(simp only [↓wA,↓wC,wB,cQ,cP,reduceEqDiff,reduceAdd,reduceSub,reduceIte,reduceCtorEq,Nat.reduceBEq,reduceLT])|(refine cO (fL _ _ _) rfl rfl ?_)|(refine cR (fL _ _ _) rfl rfl ?_)|((first|apply cJ|apply cK|apply cI)<;>intro h<;>try simp only [h]))
theorem aKw (n:Int):Fn prog 132 [.int .i64 n] (fun rs=>rs=[.bool (!dE n 1 9)]):=by
 refine c7 aUq [] ?_
 dsimp only [aUq,cY,dD]
 repeat' (first|(simp only [↓wA,↓wC,wB,cQ,cP,reduceEqDiff,reduceAdd,reduceSub,reduceIte,reduceCtorEq,Nat.reduceBEq,reduceLT])|(refine cO (vX n) rfl rfl ?_)|(refine cR (vX n) rfl rfl ?_)|((first|apply cJ|apply cK|apply cI)<;>intro h<;>try simp only [h]))
theorem aNn (x:Cs) (hx:x.ok0):Fn prog 88 [x.s] (fun rs=>rs=[.bool (gS x)]):=by
 have hR:=aE5 x.i
 have hA:=aQf x.a
 have hD:=aD7 x.d
 have hS:=aGx x.h hx
 have hC:=aBh (fun n=>!dE n 1 9) 132 .nil x.h rfl aW2 hx (fun n _=>aKw n)
 rw [aKU] at hC
 unfold gS
 generalize dE x.i 1 999=b1 at *
 generalize dE x.a 1 3=b2 at *
 generalize dE x.d 0 20000=b3 at *
 generalize (x.h.all fun n=>dE n 1 9)=b4 at *
 generalize qA x.h=b5 at *
 refine c7 aYt [] ?_
 dsimp only [aYt,cY,dD]
 simp only [Cs.s,Cs.p]
 repeat' (first|(simp only [dB,cM,cU,↓wA,↓wC,wB,cQ,cP,reduceEqDiff,reduceAdd,reduceSub,reduceIte,reduceCtorEq,Nat.reduceBEq,reduceLT])|(refine cO (hR) rfl rfl ?_)|(refine cR (hR) rfl rfl ?_)|(refine cO (hA) rfl rfl ?_)|(refine cR (hA) rfl rfl ?_)|(refine cO (hD) rfl rfl ?_)|(refine cR (hD) rfl rfl ?_)|(refine cO (hS) rfl rfl ?_)|(refine cR (hS) rfl rfl ?_)|(refine cO (hC) rfl rfl ?_)|(refine cR (hC) rfl rfl ?_)|((first|apply cJ|apply cK|apply cI)<;>intro h<;>try simp only [h]))
 all_goals (clear hR hA hD hS hC; simp_all)
theorem aKa (x:Cs) (hx:x.ok0):Fn prog 117 [x.s] (fun rs=>rs=[.bool (gS x)]):=by
 have hR:=jL x.i 1 999
 have hA:=jL x.a 1 3
 have hD:=aAj x.d
 have hS:=aH1 x.h 1 9 hx
 unfold gS
 generalize dE x.i 1 999=b1 at *
 generalize dE x.a 1 3=b2 at *
 generalize dE x.d 0 20000=b3 at *
 generalize ((x.h.all fun n=>dE n 1 9) && qA x.h)=b4 at *
 refine c7 aTN [] ?_
 dsimp only [aTN,cY,dD]
 simp only [Cs.s,Cs.p]
 repeat' (first|(simp only [dB,cM,cU,↓wA,↓wC,wB,cQ,cP,reduceEqDiff,reduceAdd,reduceSub,reduceIte,reduceCtorEq,Nat.reduceBEq,reduceLT])|(refine cO (hR) rfl rfl ?_)|(refine cR (hR) rfl rfl ?_)|(refine cO (hA) rfl rfl ?_)|(refine cR (hA) rfl rfl ?_)|(refine cO (hD) rfl rfl ?_)|(refine cR (hD) rfl rfl ?_)|(refine cO (hS) rfl rfl ?_)|(refine cR (hS) rfl rfl ?_)|((first|apply cJ|apply cK|apply cI)<;>intro h<;>try simp only [h]))
 all_goals (clear hR hA hD hS; simp_all)
theorem pB {x:Cs} {K:SV->Prop}:dL 0 0 (.d (.ptr x.s)) K=K (.d (.ptr (.int .i64 x.i))):=by simp [Cs.s,Cs.p,dL,D.pre,D.nth,D.size]
theorem zV {x:Cs} {K:SV->Prop}:dL 1 1 (.d (.ptr x.s)) K=K (.d (.ptr (.int .i64 x.a))):=by simp [Cs.s,Cs.p,dL,D.pre,D.nth,D.size]
theorem vR {x:Cs} {K:SV->Prop}:dL 2 2 (.d (.ptr x.s)) K=K (.d (.ptr (.int .i64 x.d))):=by simp [Cs.s,Cs.p,dL,D.pre,D.nth,D.size]
theorem xC {x:Cs} {K:SV->Prop}:dL 3 3 (.d (.ptr x.s)) K=K (.d (.ptr (.sl false 1 (dl iD x.h)))):=by simp [Cs.s,Cs.p,dL,D.pre,D.nth,D.size]
theorem hZ {x:Cs}:fJ [0] x.s=0:=rfl
theorem kG {x:Cs}:fJ [1] x.s=1:=rfl
theorem jW {x:Cs}:fJ [2] x.s=2:=rfl
theorem iQ {x:Cs}:fJ [3] x.s=3:=rfl
theorem g9 {x:Cs}:gC [0] x.s=some (.int .i64 x.i):=rfl
theorem kF {x:Cs}:gC [1] x.s=some (.int .i64 x.a):=rfl
theorem jV {x:Cs}:gC [2] x.s=some (.int .i64 x.d):=rfl
theorem iK {x:Cs}:gC [3] x.s=some (.sl false 1 (dl iD x.h)):=rfl
theorem aZx (o:Off):o.s.isV=true:=rfl
theorem aZB (o:Off):o.s.size=5:=rfl
theorem aZP (o:Off):o.o.isV=true:=rfl
theorem aZN (o:Off):o.o.size=5:=rfl
def ltC (xs:List Cs) (i:Nat) (x:Cs):Bool:=match i with
 | 0=>true
 | k + 1=>match xs[k]? with
  | some y=>decide (y.i < x.i)
  | none=>true
def aCY (xs:List Cs) (i:Nat):Bool:=match xs[i]? with
 | some x=>gS x && ltC xs i x
 | none=>false
theorem aAY {xs:List Cs} {i:Nat} {x:Cs} (hr:xs[i]?=some x):aCY xs i=(gS x && ltC xs i x):=by
 unfold aCY; rw [hr]
def vS (xs:List Cs):Bool:=(List.range xs.length).all (aCY xs)
theorem sA {xs:List Cs} {i:Nat} (hi:i < xs.length) (h:aCY xs i=false):vS xs=false:=by
 refine List.all_eq_false.2 ⟨i,List.mem_range.2 hi,by rw [h]; simp⟩
theorem aCh {xs:List Cs} (h:∀ j,j < xs.length->aCY xs j=true):vS xs=true :=
 List.all_eq_true.2 fun j hj=>h j (List.mem_range.1 hj)
def yW (L:List (List UInt8)):Bool:=!decide ((0:Int) < (L.length:Int)) || e9 L
def oQ (o:Off):Bool:=dE o.day 0 20000 && decide ((o.cs.length:Int)<=6) && dE o.kept 0 999 && dE o.moved 0 999 && yW o.led
def dV (o:Off):Bool:=oQ o && vS o.cs
theorem aUC {xs:List Cs} {i:Nat} {x:Cs} (hlt:i < xs.length):(decide ((0:Int) < (i:Int))=false/\ltC xs i x=true)\/∃ y,decide ((0:Int) < (i:Int))=true/\(0:Int)<=(i:Int) - 1/\xs[((i:Int) - 1).toNat]?=some y/\decide (x.i<=y.i)=!ltC xs i x:=by
 cases i with
 | zero=>exact .inl ⟨rfl,rfl⟩
 | succ k =>
  obtain ⟨y,hy⟩:=dS (show k < xs.length by omega)
  refine .inr ⟨y,decide_eq_true (by omega),by omega,?_,?_⟩
  ·rw [show (((k + 1:Nat):Int) - 1).toNat=k by omega]; exact hy
  ·have:ltC xs (k + 1) x=decide (y.i < x.i):=by simp only [ltC,hy]
   rw [this]
   by_cases h:y.i < x.i
   ·rw [decide_eq_true h,decide_eq_false (by omega)]; rfl
   ·rw [decide_eq_false h,decide_eq_true (by omega)]; rfl
theorem kP (o:Off) (ho:o.ok0):Fn prog 43 [o.s] (fun rs=>rs=[.bool (dV o)]):=by
 have hDay:=aD7 o.day
 have hK:=fL o.kept 0 999
 have hM:=fL o.moved 0 999
 have hL:=aB9 o.led ho.2.1
 have hlen:=ho.1.1
 have hh:oQ o=(dE o.day 0 20000 && decide ((o.cs.length:Int)<=6) && dE o.kept 0 999 && dE o.moved 0 999 && yW o.led):=rfl
 unfold yW at hh
 unfold dV
 have body:oQ o=true->Fn prog 43 [o.s] (fun rs=>rs=[.bool (vS o.cs)]):=by
  intro hho
  rw [hh] at hho
  simp only [Bool.and_eq_true] at hho
  obtain ⟨⟨⟨⟨q1,q2⟩,q3⟩,q4⟩,q5⟩:=hho
  rw [q1] at hDay
  rw [q3] at hK
  rw [q4] at hM
  have q2':=of_decide_eq_true q2
  have e2:decide ((6:Int) < (o.cs.length:Int))=false:=decide_eq_false (by omega)
  generalize hlg:e9 o.led=b5 at *
  refine c7 aR9 [] ?_
  dsimp only [aR9,cY,dD]
  simp only [Off.s,d5]
  repeat' (first|(simp only [c8,cZ,cM,cU,e2,↓wA,↓wC,wB,cQ,cP,reduceEqDiff,reduceAdd,reduceSub,reduceIte,reduceCtorEq,Nat.reduceBEq,reduceLT])|(refine cO (hDay) rfl rfl ?_)|(refine cR (hDay) rfl rfl ?_)|(refine cO (hK) rfl rfl ?_)|(refine cR (hK) rfl rfl ?_)|(refine cO (hM) rfl rfl ?_)|(refine cR (hM) rfl rfl ?_)|(refine cO (hL) rfl rfl ?_)|(refine cR (hL) rfl rfl ?_)|((first|apply cJ|apply cK|apply cI)<;>intro h<;>try simp only [h]))
  any_goals (exfalso; clear hDay hK hM hL; simp_all; done)
  all_goals
   refine dU o.cs.length (fun i:Nat=>⟨[(1,.ptr 0 0 []),(40,.d (.sl false 4 (dl Cs.s o.cs))),(41,.d (.int .i64 o.cs.length)),(42,.d (.int .i64 i))],[.box o.s]⟩) (fun i=>∀ j,j < i->aCY o.cs j=true) (cX _ rfl ⟨⟨rfl,rfl⟩,⟨rfl,rfl⟩,⟨rfl,rfl⟩,⟨rfl,rfl⟩,trivial⟩) (fun j hj=>by omega) ?_ ?_
   ·intro i hlt hinv hd h0
    obtain ⟨x,hr⟩:=dS hlt
    have hst:=aAY hr
    have hok:=aNn x (ho.1.2 x (List.mem_of_getElem? hr))
    simp only [Off.s,d5]
    rcases aUC (x:=x) hlt with ⟨hg,hl⟩|⟨y,hg,h1,hy,hq⟩
    ·rw [hl,Bool.and_true] at hst
     repeat' (first|(simp only [c8,cZ,cU,dC,hd,h0,hg,Int.toNat_natCast,hr,Option.map_some,↓iN,aZG,aZE,aZD,aZF,cM,↓wA,↓wC,wB,cQ,cP,reduceEqDiff,reduceAdd,reduceSub,reduceIte,reduceCtorEq,Nat.reduceBEq,reduceLT])|(refine cO (hok) rfl rfl ?_)|(refine cR (hok) rfl rfl ?_)|(with_reducible refine cV ?_ ?_; focus (simp only [eA]; omega))|((first|apply cJ|apply cK|apply cI)<;>intro h<;>try simp only [h]))
     all_goals first
      |(refine fZ (cX _ rfl ⟨⟨rfl,rfl⟩,⟨rfl,rfl⟩,⟨rfl,rfl⟩,⟨rfl,rfl⟩,trivial⟩) hlt (aA5 hinv ?_); focus (clear hok; rw [hst]; simp_all; done))
      |(refine (congrArg (fun b=>[D.bool b]) (sA hlt ?_)).symm; focus (clear hok; rw [hst]; simp_all; done))
      | trace_state
    ·repeat' (first|(simp only [c8,cZ,cU,dC,hd,h0,hg,h1,hy,hq,Int.toNat_natCast,hr,Option.map_some,↓iN,↓pB,hZ,g9,aZG,aZE,aZD,aZF,cM,↓wA,↓wC,wB,cQ,cP,reduceEqDiff,reduceAdd,reduceSub,reduceIte,reduceCtorEq,Nat.reduceBEq,reduceLT])|(refine cO (hok) rfl rfl ?_)|(refine cR (hok) rfl rfl ?_)|(with_reducible refine cV ?_ ?_; focus (simp only [eA]; omega))|((first|apply cJ|apply cK|apply cI)<;>intro h<;>try simp only [h]))
     all_goals first
      |(refine fZ (cX _ rfl ⟨⟨rfl,rfl⟩,⟨rfl,rfl⟩,⟨rfl,rfl⟩,⟨rfl,rfl⟩,trivial⟩) hlt (aA5 hinv ?_); focus (clear hok; rw [hst]; simp_all; done))
      |(refine (congrArg (fun b=>[D.bool b]) (sA hlt ?_)).symm; focus (clear hok; rw [hst]; simp_all; done))
      | trace_state
   ·intro hinv hd
    have hall:=aCh hinv
    rw [hall]
    simp only [Off.s,d5]
    repeat' (first|(simp only [c8,cZ,cU,hd,cM,↓wA,↓wC,wB,cQ,cP,reduceEqDiff,reduceAdd,reduceSub,reduceIte,reduceCtorEq,Nat.reduceBEq,reduceLT])|((first|apply cJ|apply cK|apply cI)<;>intro h<;>try simp only [h]))
 cases hho:oQ o with
 | true=>simpa using body hho
 | false =>
  rw [hh] at hho
  rw [Bool.false_and]
  generalize hlg:e9 o.led=b5 at *
  generalize dE o.day 0 20000=b1 at *
  generalize dE o.kept 0 999=b3 at *
  generalize dE o.moved 0 999=b4 at *
  refine c7 aR9 [] ?_
  dsimp only [aR9,cY,dD]
  simp only [Off.s,d5]
  repeat' (first|(simp only [c8,cZ,cM,cU,↓wA,↓wC,wB,cQ,cP,reduceEqDiff,reduceAdd,reduceSub,reduceIte,reduceCtorEq,Nat.reduceBEq,reduceLT])|(refine cO (hDay) rfl rfl ?_)|(refine cR (hDay) rfl rfl ?_)|(refine cO (hK) rfl rfl ?_)|(refine cR (hK) rfl rfl ?_)|(refine cO (hM) rfl rfl ?_)|(refine cR (hM) rfl rfl ?_)|(refine cO (hL) rfl rfl ?_)|(refine cR (hL) rfl rfl ?_)|((first|apply cJ|apply cK|apply cI)<;>intro h<;>try simp only [h]))
  all_goals first
   | rfl
   |(exfalso; clear hDay hK hM hL body; simp_all; done)
   |(exfalso; clear hDay hK hM hL body; simp_all; omega)
theorem gT (o:Off) (ho:o.ok0):Fn prog 76 [o.s] (fun rs=>rs=[.bool (dV o)]):=by
 have hDay:=aAj o.day
 have hK:=jL o.kept 0 999
 have hM:=jL o.moved 0 999
 have hL:=aJr o.led ho.2.1 ho.2.2
 have hlen:=ho.1.1
 have hh:oQ o=(dE o.day 0 20000 && decide ((o.cs.length:Int)<=6) && dE o.kept 0 999 && dE o.moved 0 999 && yW o.led):=rfl
 unfold yW at hh
 unfold dV
 have body:oQ o=true->Fn prog 76 [o.s] (fun rs=>rs=[.bool (vS o.cs)]):=by
  intro hho
  rw [hh] at hho
  simp only [Bool.and_eq_true] at hho
  obtain ⟨⟨⟨⟨q1,q2⟩,q3⟩,q4⟩,q5⟩:=hho
  rw [q1] at hDay
  rw [q3] at hK
  rw [q4] at hM
  have q2':=of_decide_eq_true q2
  have e2:decide ((6:Int) < (o.cs.length:Int))=false:=decide_eq_false (by omega)
  generalize hlg:e9 o.led=b5 at *
  refine c7 aS8 [] ?_
  dsimp only [aS8,cY,dD]
  simp only [Off.s,d5]
  repeat' (first|(simp only [c8,cZ,cM,cU,e2,↓wA,↓wC,wB,cQ,cP,reduceEqDiff,reduceAdd,reduceSub,reduceIte,reduceCtorEq,Nat.reduceBEq,reduceLT])|(refine cO (hDay) rfl rfl ?_)|(refine cR (hDay) rfl rfl ?_)|(refine cO (hK) rfl rfl ?_)|(refine cR (hK) rfl rfl ?_)|(refine cO (hM) rfl rfl ?_)|(refine cR (hM) rfl rfl ?_)|(refine cO (hL) rfl rfl ?_)|(refine cR (hL) rfl rfl ?_)|((first|apply cJ|apply cK|apply cI)<;>intro h<;>try simp only [h]))
  any_goals (exfalso; clear hDay hK hM hL; simp_all; done)
  all_goals
   refine dU o.cs.length (fun i:Nat=>⟨[(1,.ptr 0 0 []),(3,.d (.int .i64 i))],[.box o.s]⟩) (fun i=>∀ j,j < i->aCY o.cs j=true) (cX _ rfl ⟨⟨rfl,rfl⟩,⟨rfl,rfl⟩,trivial⟩) (fun j hj=>by omega) ?_ ?_
   ·intro i hlt hinv hd h0
    obtain ⟨x,hr⟩:=dS hlt
    have hst:=aAY hr
    have hok:=aKa x (ho.1.2 x (List.mem_of_getElem? hr))
    simp only [Off.s,d5]
    rcases aUC (x:=x) hlt with ⟨hg,hl⟩|⟨y,hg,h1,hy,hq⟩
    ·rw [hl,Bool.and_true] at hst
     repeat' (first|(simp only [c8,cZ,cU,dC,hd,h0,hg,Int.toNat_natCast,hr,Option.map_some,↓iN,aZG,aZE,aZD,aZF,cM,↓wA,↓wC,wB,cQ,cP,reduceEqDiff,reduceAdd,reduceSub,reduceIte,reduceCtorEq,Nat.reduceBEq,reduceLT])|(refine cO (hok) rfl rfl ?_)|(refine cR (hok) rfl rfl ?_)|(with_reducible refine cV ?_ ?_; focus (simp only [eA]; omega))|((first|apply cJ|apply cK|apply cI)<;>intro h<;>try simp only [h]))
     all_goals first
      |(refine fZ (cX _ rfl ⟨⟨rfl,rfl⟩,⟨rfl,rfl⟩,trivial⟩) hlt (aA5 hinv ?_); focus (clear hok; rw [hst]; simp_all; done))
      |(refine (congrArg (fun b=>[D.bool b]) (sA hlt ?_)).symm; focus (clear hok; rw [hst]; simp_all; done))
      | trace_state
    ·repeat' (first|(simp only [c8,cZ,cU,dC,hd,h0,hg,h1,hy,hq,Int.toNat_natCast,hr,Option.map_some,↓iN,↓pB,hZ,g9,aZG,aZE,aZD,aZF,cM,↓wA,↓wC,wB,cQ,cP,reduceEqDiff,reduceAdd,reduceSub,reduceIte,reduceCtorEq,Nat.reduceBEq,reduceLT])|(refine cO (hok) rfl rfl ?_)|(refine cR (hok) rfl rfl ?_)|(with_reducible refine cV ?_ ?_; focus (simp only [eA]; omega))|((first|apply cJ|apply cK|apply cI)<;>intro h<;>try simp only [h]))
     all_goals first
      |(refine fZ (cX _ rfl ⟨⟨rfl,rfl⟩,⟨rfl,rfl⟩,trivial⟩) hlt (aA5 hinv ?_); focus (clear hok; rw [hst]; simp_all; done))
      |(refine (congrArg (fun b=>[D.bool b]) (sA hlt ?_)).symm; focus (clear hok; rw [hst]; simp_all; done))
      | trace_state
   ·intro hinv hd
    have hall:=aCh hinv
    rw [hall]
    simp only [Off.s,d5]
    repeat' (first|(simp only [c8,cZ,cU,hd,cM,↓wA,↓wC,wB,cQ,cP,reduceEqDiff,reduceAdd,reduceSub,reduceIte,reduceCtorEq,Nat.reduceBEq,reduceLT])|((first|apply cJ|apply cK|apply cI)<;>intro h<;>try simp only [h]))
 cases hho:oQ o with
 | true=>simpa using body hho
 | false =>
  rw [hh] at hho
  rw [Bool.false_and]
  generalize hlg:e9 o.led=b5 at *
  generalize dE o.day 0 20000=b1 at *
  generalize dE o.kept 0 999=b3 at *
  generalize dE o.moved 0 999=b4 at *
  refine c7 aS8 [] ?_
  dsimp only [aS8,cY,dD]
  simp only [Off.s,d5]
  repeat' (first|(simp only [c8,cZ,cM,cU,↓wA,↓wC,wB,cQ,cP,reduceEqDiff,reduceAdd,reduceSub,reduceIte,reduceCtorEq,Nat.reduceBEq,reduceLT])|(refine cO (hDay) rfl rfl ?_)|(refine cR (hDay) rfl rfl ?_)|(refine cO (hK) rfl rfl ?_)|(refine cR (hK) rfl rfl ?_)|(refine cO (hM) rfl rfl ?_)|(refine cR (hM) rfl rfl ?_)|(refine cO (hL) rfl rfl ?_)|(refine cR (hL) rfl rfl ?_)|((first|apply cJ|apply cK|apply cI)<;>intro h<;>try simp only [h]))
  all_goals first
   | rfl
   |(exfalso; clear hDay hK hM hL body; simp_all; done)
   |(exfalso; clear hDay hK hM hL body; simp_all; omega)
def Off.raw (o:Off):Prop:=o.cs.length<=maxLen/\(∀ x∈o.cs,x.h.length<=maxLen)/\o.led.length<=maxLen/\∀ s∈o.led,s.length<=maxLen
structure Con where
 o:Off
 d:List UInt8
 p:List UInt8
 c:Int
def tC (x y:D):D:=.st (.cons x (.cons y .nil))
def Con.s (x:Con):D:=tC x.o.s (eQ x.d x.p x.c)
def Con.o' (x:Con):D:=tC x.o.o (eQ x.d x.p x.c)
def Con.raw (x:Con):Prop:=x.o.raw/\x.d.length<=maxLen/\x.p.length<=maxLen
def Con.ok0 (x:Con):Prop:=x.o.ok0/\x.d.length + x.p.length<=1048576
def gO (x:Con):Bool:=dV x.o && lv x.d x.p x.c
theorem eI (d p:List UInt8) (c:Int):(eQ d p c).noOwn=true:=rfl
theorem uK (d p:List UInt8) (c:Int):(eQ d p c).unown=eQ d p c:=rfl
theorem fC (d p:List UInt8) (c:Int):(eQ d p c).isV=true:=rfl
theorem fQ (d p:List UInt8) (c:Int):(eQ d p c).size=3:=rfl
theorem aZQ (o:Off):o.o.noOwn=false:=by simp [Off.o,d5,D.noOwn]
theorem aZy (x:Con):x.s.noOwn=true:=by simp [Con.s,tC,D.noOwn,aZw,eI]
theorem aZC (x:Con):x.s.unown=x.s:=by simp [Con.s,tC,D.unown,aZv,uK]
theorem aZU (x:Con):x.o'.unown=x.s:=by simp [Con.o',Con.s,tC,D.unown,aZI,uK]
theorem aZz (x:Con):x.s.isV=true:=rfl
theorem aZA (x:Con):x.s.size=8:=rfl
theorem aZO (x:Con):x.o'.isV=true:=rfl
theorem aZL (x:Con):x.o'.size=8:=rfl
theorem gA {x:Con} {K:SV->Prop}:dL 0 0 (.d (.ptr x.s)) K=K (.d (.ptr x.o.s)):=by simp [Con.s,tC,dL,D.pre,D.nth,D.size,Off.s,d5,eQ]
theorem xW {x:Con} {K:SV->Prop}:dL 1 5 (.d (.ptr x.s)) K=K (.d (.ptr (eQ x.d x.p x.c))):=by simp [Con.s,tC,dL,D.pre,D.nth,D.size,Off.s,d5,eQ]
theorem sH {x:Con}:fJ [0] x.s=0:=rfl
theorem jU {x:Con}:fJ [1] x.s=5:=rfl
theorem vQ {x:Con}:gC [0] x.s=some x.o.s:=rfl
theorem j5 {x:Con}:gC [1] x.s=some (eQ x.d x.p x.c):=rfl
theorem dY {o:List Ob} {K:SV->Prop} {x:Con}:fB o (some 8) x.s K=K (.d x.s):=by simp [Con.s,tC,fB,D.size,D.noOwn,Off.s,d5,c8,cZ,eQ]
theorem gK {o:List Ob} {K:SV->Prop} {d p:List UInt8} {c:Int}:fB o (some 3) (eQ d p c) K=K (.d (eQ d p c)):=by simp [fB,D.size,D.noOwn,eQ]
theorem jY (x:Con) (h:x.ok0):Fn prog 11 [x.s] (fun rs=>rs=[.bool (gO x)]):=by
 have h1:=kP x.o h.1
 have h2:=sR x.d x.p x.c (by have:=h.2; omega)
 unfold gO
 cases hb:dV x.o<;>rw [hb] at h1
 all_goals
  refine c7 aW1 [] ?_
  dsimp only [aW1,cY,dD]
  repeat' (first|(simp only [sH,jU,vQ,j5,eI,↓dK,↓gK,aZy,aZz,aZw,aZx,cM,decide_true,↓wA,↓wC,wB,cQ,cP,reduceEqDiff,reduceAdd,reduceSub,reduceIte,reduceCtorEq,Nat.reduceBEq,reduceLT])|(refine cO h1 (by simp [dH,dQ,aZv]) rfl ?_)|(refine cO h2 (by simp [dH,dQ,uK]) rfl ?_)|((first|apply cJ|apply cK|apply cI)<;>intro h<;>try simp only [h]))
 all_goals simp
theorem q9 (x:Con) (h:x.ok0):Fn prog 39 [x.s] (fun rs=>rs=[.bool (gO x)]):=by
 have h1:=gT x.o h.1
 have h2:=tQ x.d x.p x.c (by have:=h.2; omega)
 unfold gO
 cases hb:dV x.o<;>rw [hb] at h1
 all_goals
  refine c7 aXp [] ?_
  dsimp only [aXp,cY,dD]
  repeat' (first|(simp only [sH,jU,vQ,j5,eI,↓dK,↓gK,aZy,aZz,aZw,aZx,cM,decide_true,↓wA,↓wC,wB,cQ,cP,reduceEqDiff,reduceAdd,reduceSub,reduceIte,reduceCtorEq,Nat.reduceBEq,reduceLT])|(refine cO h1 (by simp [dH,dQ,aZv]) rfl ?_)|(refine cO h2 (by simp [dH,dQ,uK]) rfl ?_)|((first|apply cJ|apply cK|apply cI)<;>intro h<;>try simp only [h]))
 all_goals simp
theorem aHL {w:World} {M:Nat->Prop}:∀ (L:List (List UInt8)) (ds:List Value) (fps:List Nat),(dl D.str L).rep w M ds fps->ds=L.map (fun s=>Value.string ⟨s.toArray⟩)
 | [],ds,fps,h=>h.1
 | s :: L,ds,fps,h=>by
  obtain ⟨c1,c2,f1,f2,rfl,_,h1,h2⟩:=h
  obtain ⟨rfl,_⟩:=h1
  rw [aHL L c2 f2 h2]; rfl
theorem aRn (L:List (List UInt8)) (sep:List UInt8) (hN:L.length<=1048576) (hlen:(Lib.join L sep).length<=140737488355328):Fn prog 135 [.sl false 1 (dl D.str L),.str sep] (fun rs=>rs=[.str (Lib.join L sep)]):=by
 intro M vs w hM hG hv
 obtain ⟨cs,us,f1,f2,rfl,_,⟨_,a,c,ds,fps,rfl,hle,hds,hor⟩,⟨cs2,us2,f3,f4,rfl,_,⟨rfl,_⟩,rfl,_⟩⟩:=hv
 have hd:=aHL L ds fps hds
 have hl:(dl D.str L).len=L.length:=cU L
 have e:(L.map fun s:List UInt8=>(⟨s.toArray⟩:ByteArray)).map (·.data.toList)=L:=by
  rw [List.map_map]; exact (List.map_congr_left (fun s _=>by simp)).trans (List.map_id _)
 have e2:(⟨sep.toArray⟩:ByteArray).data.toList=sep:=by simp
 have main:Calls prog.P 135 #[.slice a (dl D.str L).len c,.string ⟨sep.toArray⟩] w fun e w'=>e=.returned (.string ⟨(Lib.join L sep).toArray⟩)/\mO w w':=by
  cases L with
  | nil=>exact (Go.Proofs.Tryz.strings_Join_none a c ⟨sep.toArray⟩ w).mono (by rintro e w' ⟨rfl,rfl⟩; exact ⟨rfl,mO.refl _⟩)
  | cons x r =>
   rw [hl] at hle hor ⊢
   simp only [Bool.false_eq_true,if_false] at hor
   obtain ⟨rfl,_,h0|⟨ad,rfl,hh⟩⟩:=hor
   ·simp at h0
   ·rcases hh with h|⟨hlt,hnM,hcell⟩
    ·rw [h] at hd; simp at hd
    ·have h0:=hcell 0 _ (by rw [hd]; rfl)
     obtain ⟨bk,o,sp⟩:=ad
     cases sp with
     | some s =>
      simp only [World.cell?,Addr.add,if_true] at h0
      split at h0
      ·simp at h0
      ·cases h0
     | none =>
      have hJ:=Go.Proofs.Tryz.strings_Join bk o c ((x :: r).map fun s:List UInt8=>(⟨s.toArray⟩:ByteArray)) ⟨sep.toArray⟩ w (fun j y hy=>by
       rw [List.getElem?_map] at hy
       obtain ⟨s,hs,rfl⟩:=Option.map_eq_some_iff.1 hy
       have:=hcell j (.string ⟨s.toArray⟩) (by rw [hd,List.getElem?_map,hs]; rfl)
       unfold Addr.add at this
       split at this
       ·rename_i hj; subst hj; exact this
       ·exact this) hlt (by rw [List.length_map]; omega) (by rw [List.length_map]; exact hle) (by rw [e,e2]; exact hlen)
      rw [e,e2,List.length_map] at hJ
      exact hJ
 refine Calls.mono main ?_
 rintro e w' ⟨rfl,hx⟩
 exact ⟨[.str (Lib.join L sep)],[.string ⟨(Lib.join L sep).toArray⟩],[],rfl,rfl,wZ rfl,List.nodup_nil,(fun b hb=>by cases hb),hx⟩
theorem uS (sep:List UInt8) (k:Nat):∀ r:List (List UInt8),(∀ x∈r,x.length<=k)->(Lib.joinTail sep r).length<=r.length * (sep.length + k)
 | [],_=>by simp [Lib.joinTail]
 | x :: r,h=>by
  have h1:=uS sep k r (fun y hy=>h y (List.mem_cons_of_mem _ hy))
  have h2:=h x List.mem_cons_self
  have:Lib.joinTail sep (x :: r)=sep ++ x ++ Lib.joinTail sep r:=rfl
  rw [this]
  simp only [List.length_append,List.length_cons,Nat.add_mul,Nat.one_mul]
  omega
theorem aEG (sep:List UInt8) (k:Nat):∀ r:List (List UInt8),(∀ x∈r,x.length<=k)->(Lib.join r sep).length<=r.length * (sep.length + k)
 | [],_=>by simp [Lib.join]
 | x :: r,h=>by
  have h1:=uS sep k r (fun y hy=>h y (List.mem_cons_of_mem _ hy))
  have h2:=h x List.mem_cons_self
  rw [Lib.join_cons]
  simp only [List.length_append,List.length_cons,Nat.add_mul,Nat.one_mul]
  omega
theorem aBe {v:List Int} (hv:∀ n∈v,eA .i64 n):∀ x∈v.map Lib.itoa,x.length<=21:=by
 intro x hx
 obtain ⟨n,hn,rfl⟩:=List.mem_map.1 hx
 exact eJ n (hv n hn)
theorem aB3 (v:List Int) (sep:List UInt8) (hv:∀ n∈v,eA .i64 n) (hl:v.length<=1000) (hs:sep.length<=1000):Fn prog 90 [.sl false 1 (dl iD v),.str sep] (fun rs=>rs=[.str (Lib.join (v.map Lib.itoa) sep)]):=by
 have hL:=aEG sep 21 (v.map Lib.itoa) (aBe hv)
 have hb:(v.map Lib.itoa).length * (sep.length + 21)<=1000 * 1021:=Nat.mul_le_mul (by simpa using hl) (by omega)
 have hJ:=aRn (v.map Lib.itoa) sep (by simp; omega) (by omega)
 refine c7 aXj [] ?_
 dsimp only [aXj,cY,dD]
 simp only [↓wA,↓wC,wB,cQ,cP,reduceEqDiff,reduceAdd,reduceSub,reduceIte,reduceCtorEq,Nat.reduceBEq,reduceLT]
 simp only [cU,↓wA,↓wC,wB,cQ,cP,reduceEqDiff,reduceAdd,reduceSub,reduceIte,reduceCtorEq,Nat.reduceBEq,reduceLT]
 refine cW (by omega) ?_
 have hz:kN (List.replicate (↑v.length:Int).toNat (D.str []))=dl D.str ((v.map Lib.itoa).take 0 ++ List.replicate (v.length - 0) []):=by
  rw [aGG]; simp
 rw [hz]
 refine dU v.length (fun i:Nat=>⟨[(1,.d (.str sep)),(5,.own 0),(11,.d (.sl false 1 (dl iD v))),(12,.d (.int .i64 v.length)),(13,.d (.int .i64 i))],[.val (.sl true 1 (dl D.str ((v.map Lib.itoa).take i ++ List.replicate (v.length - i) [])))]⟩) (fun _=>True) (cX _ rfl ⟨⟨rfl,rfl⟩,⟨rfl,rfl⟩,⟨rfl,rfl⟩,⟨rfl,rfl⟩,⟨rfl,rfl⟩,trivial⟩) trivial ?_ ?_
 ·intro i hlt _ hd h0
  obtain ⟨n,hr⟩:=dS hlt
  have hrs:(v.map Lib.itoa)[i]?=some (Lib.itoa n):=by rw [List.getElem?_map,hr]; rfl
  have hD:=eZ n (hv n (List.mem_of_getElem? hr))
  have hn:((v.map Lib.itoa).take i ++ List.replicate (v.length - i) ([]:List UInt8))[i]?=some []:=by
   rw [List.getElem?_append_right (by simp; omega),List.length_take,List.length_map,Nat.min_eq_left (by omega),Nat.sub_self,show v.length - i=(v.length - (i + 1)) + 1 by omega]; rfl
  have hfs:(dl D.str ((v.map Lib.itoa).take i ++ List.replicate (v.length - i) ([]:List UInt8))).setN i (D.str (Lib.itoa n))=dl D.str ((v.map Lib.itoa).take (i + 1) ++ List.replicate (v.length - (i + 1)) []):=by
   have hl:v.length=(v.map Lib.itoa).length:=by simp
   rw [kZ]
   conv=>lhs; rw [hl]
   conv=>rhs; rw [hl]
   rw [aMp hrs]
  repeat' (first|(simp only [cU,dC,hd,h0,Int.toNat_natCast,hr,hn,hfs,Option.map_some,cM,eV,iD,↓wA,↓wC,wB,cQ,cP,reduceEqDiff,reduceAdd,reduceSub,reduceIte,reduceCtorEq,Nat.reduceBEq,reduceLT])|(refine cO hD rfl rfl ?_)|(with_reducible refine cV ?_ ?_; focus (simp only [eA]; omega))|((first|apply cJ|apply cK|apply cI)<;>intro h<;>try simp only [h]))
  all_goals exact ⟨i + 1,(cX _ rfl ⟨⟨rfl,rfl⟩,⟨rfl,rfl⟩,⟨rfl,rfl⟩,⟨rfl,rfl⟩,⟨rfl,rfl⟩,trivial⟩),by omega,by omega⟩
 ·intro _ hd
  have h1:(v.map Lib.itoa).take v.length=v.map Lib.itoa:=List.take_of_length_le (by simp)
  rw [h1,Nat.sub_self,List.replicate_zero,List.append_nil]
  repeat' (first|(simp only [cU,hd,↓wA,↓wC,wB,cQ,cP,reduceEqDiff,reduceAdd,reduceSub,reduceIte,reduceCtorEq,Nat.reduceBEq,reduceLT])|(refine cO hJ (by simp [dH,dQ,l9,D.unown,fF]) rfl ?_)|((first|apply cJ|apply cK|apply cI)<;>intro h<;>try simp only [h]))
  all_goals trace_state
def mL (v:List Int):List UInt8:=if v=[] then [] else [32,104,101,108,100,32] ++ Lib.join (v.map Lib.itoa) [44]
theorem aKD (u:List Int) (n:Int):mL (u ++ [n])=mL u ++ (if u=[] then [32,104,101,108,100,32] else [44]) ++ Lib.itoa n:=by
 cases u with
 | nil=>simp [mL,Lib.join_one]
 | cons x r =>
  have h1:Lib.joinTail [44] (r.map Lib.itoa ++ [Lib.itoa n])=Lib.joinTail [44] (r.map Lib.itoa) ++ ([44] ++ Lib.itoa n):=by simp [Lib.joinTail]
  simp only [mL,List.cons_append,if_neg (List.cons_ne_nil _ _),List.map_cons,List.map_append,List.map_nil,Lib.join_cons,h1,List.append_assoc]
theorem aID {v:List Int} {i:Nat} {n:Int} (hr:v[i]?=some n):mL (v.take (i + 1))=mL (v.take i) ++ (if i=0 then [32,104,101,108,100,32] else [44]) ++ Lib.itoa n:=by
 have hi:=c6 hr
 rw [fY hr,aKD]
 by_cases h:i=0
 ·subst h; simp
 ·have:v.take i≠[]:=by
   intro h'
   have:=congrArg List.length h'
   rw [List.length_take,Nat.min_eq_left (by omega)] at this
   exact h this
  rw [if_neg this,if_neg h]
theorem uD {v:List Int} (hv:∀ n∈v,eA .i64 n):(mL v).length<=6 + v.length * 22:=by
 unfold mL
 split
 ·simp
 ·have:=aEG [44] 21 (v.map Lib.itoa) (aBe hv)
  simp only [List.length_append,List.length_map,List.length_cons,List.length_nil] at this ⊢
  omega
def aHO (a:Int):List UInt8:=if a=1 then [107,101,101,112] else if a=2 then [116,114,97,110,115,102,101,114] else [100,101,115,116,114,111,121]
def txt (x:Cs):List UInt8:=aHO x.a ++ [32,100,117,101,32] ++ Lib.itoa x.d ++ mL x.h
theorem nO {x:Cs} (h:gS x=true):(x.a=1\/x.a=2\/x.a=3)/\(0<=x.i/\eA .i64 x.i)/\(0<=x.d/\eA .i64 x.d)/\x.h.length<=5/\∀ n∈x.h,0<=n/\eA .i64 n:=by
 simp only [gS,Bool.and_eq_true,dE,decide_eq_true_eq,List.all_eq_true] at h
 obtain ⟨⟨⟨⟨h1,h2⟩,h3⟩,h4⟩,h5,_⟩:=h
 refine ⟨by omega,⟨by omega,by simp only [eA]; omega⟩,⟨by omega,by simp only [eA]; omega⟩,by omega,fun n hn=>?_⟩
 have:=h5 n hn
 exact ⟨by omega,by simp only [eA]; omega⟩
theorem aH6 (a:Int):(aHO a).length<=8:=by
 unfold aHO
 split
 ·simp
 ·split<;>simp
theorem aHP:((1:Int) - 1).toNat=0:=rfl
theorem aIJ:((2:Int) - 1).toNat=1:=rfl
theorem aDy:((3:Int) - 1).toNat=2:=rfl
theorem aAu:decide ((0:Int) < ((0:Nat):Int))=false:=rfl
theorem aGs:((1:Int)).toNat=1:=rfl
theorem aG8:((2:Int)).toNat=2:=rfl
theorem aBP:((3:Int)).toNat=3:=rfl
theorem aCc (x:Cs) (h:gS x=true):Fn prog 48 [x.s] (fun rs=>rs=[.str (txt x)]):=by
 obtain ⟨hA,_,h3,h4,h5⟩:=nO h
 have hD:=eZ x.d h3.2
 have hH:=aB3 x.h [44] (fun n hn=>(h5 n hn).2) (by omega) (by simp)
 have hT:=uD (v:=x.h) (fun n hn=>(h5 n hn).2)
 have hi:=eJ x.d h3.2
 have hJl:=aEG [44] 21 (x.h.map Lib.itoa) (aBe (fun n hn=>(h5 n hn).2))
 simp only [List.length_map,List.length_cons,List.length_nil] at hJl
 obtain ⟨xi,a,d,hs⟩:=x
 simp only at hA h3 h4 h5 hD hH hT hi hJl
 unfold txt
 rcases hA with rfl|rfl|rfl
 all_goals
  cases hs with
  | nil =>
   refine c7 aQS [] ?_
   dsimp only [aQS,cY,dD]
   simp only [Cs.s,Cs.p]
   repeat' (first|(simp only [cM,dB,aAu,aHP,aIJ,aDy,cU,↓wA,↓wC,wB,cQ,cP,reduceEqDiff,reduceAdd,reduceSub,reduceIte,reduceCtorEq,Nat.reduceBEq,reduceLT])|(refine cO hD rfl rfl ?_)|(refine dN ?_)|(with_reducible refine And.intro ?_ ?_)|(with_reducible refine cW ?_ ?_; focus ((try simp only [List.length_append,List.length_cons,List.length_nil]); omega))|(with_reducible refine cV ?_ ?_; focus (simp only [eA]; omega))|((first|apply cJ|apply cK|apply cI)<;>intro h<;>try simp only [h]))
   all_goals (simp [aHO,mL]; done)
  | cons n r =>
   have hd0:decide ((0:Int) < ((n :: r).length:Int))=true:=decide_eq_true (by simp only [List.length_cons]; omega)
   have hd1:decide (((n :: r).length:Int) > 0)=true:=hd0
   have hT2:mL (n :: r)=[32,104,101,108,100,32] ++ Lib.join ((n :: r).map Lib.itoa) [44]:=rfl
   generalize n :: r=hs at *
   refine c7 aQS [] ?_
   dsimp only [aQS,cY,dD]
   simp only [Cs.s,Cs.p]
   repeat' (first|(simp only [cM,dB,aHP,aIJ,aDy,cU,hd0,hd1,↓wA,↓wC,wB,cQ,cP,reduceEqDiff,reduceAdd,reduceSub,reduceIte,reduceCtorEq,Nat.reduceBEq,reduceLT])|(refine cO hD rfl rfl ?_)|(refine cO hH rfl rfl ?_)|(refine dN ?_)|(with_reducible refine And.intro ?_ ?_)|(with_reducible refine cW ?_ ?_; focus ((try simp only [List.length_append,List.length_cons,List.length_nil]); omega))|(with_reducible refine cV ?_ ?_; focus (simp only [eA]; omega))|((first|apply cJ|apply cK|apply cI)<;>intro h<;>try simp only [h]))
   all_goals (simp [aHO,hT2]; done)
def pre (a:Int):List UInt8:=aHO a ++ [32,100,117,101,32]
theorem aVK (t:List UInt8):(107 :: 101 :: 101 :: 112 :: 32 :: 100 :: 117 :: 101 :: 32 :: t:List UInt8)=pre 1 ++ t:=rfl
theorem aVz (t:List UInt8):(116 :: 114 :: 97 :: 110 :: 115 :: 102 :: 101 :: 114 :: 32 :: 100 :: 117 :: 101 :: 32 :: t:List UInt8)=pre 2 ++ t:=rfl
theorem aU0 (t:List UInt8):(100 :: 101 :: 115 :: 116 :: 114 :: 111 :: 121 :: 32 :: 100 :: 117 :: 101 :: 32 :: t:List UInt8)=pre 3 ++ t:=rfl
theorem aQ3 (x:Cs):txt x=pre x.a ++ (Lib.itoa x.d ++ mL x.h):=by simp [txt,pre]
theorem aG0 (a:Int):(pre a).length<=13:=by
 have:=aH6 a
 simp only [pre,List.length_append,List.length_cons,List.length_nil]
 omega
theorem aHd (v:List Int):mL (v.take 0)=[]:=rfl
theorem aGM {v:List Int} {i:Nat} {n:Int} (hr:v[i]?=some n) (h:i=0):mL (v.take (i + 1))=mL (v.take i) ++ (32 :: 104 :: 101 :: 108 :: 100 :: 32 :: Lib.itoa n):=by
 rw [aID hr,if_pos h,List.append_assoc]; rfl
theorem aG1 {v:List Int} {i:Nat} {n:Int} (hr:v[i]?=some n) (h:¬ i=0):mL (v.take (i + 1))=mL (v.take i) ++ (44 :: Lib.itoa n):=by
 rw [aID hr,if_neg h,List.append_assoc]; rfl
theorem aAc (x:Cs) (h:gS x=true):Fn prog 50 [x.s] (fun rs=>rs=[.str (txt x)]):=by
 obtain ⟨hA,_,h3,h4,h5⟩:=nO h
 have hD:=eW x.d h3.1 h3.2
 have hi:=eJ x.d h3.2
 rw [aQ3]
 obtain ⟨xi,a,d,hs⟩:=x
 simp only at hA h3 h4 h5 hD hi ⊢
 rcases hA with rfl|rfl|rfl
 ·skip
  refine c7 aLQ [] ?_
  dsimp only [aLQ,cY,dD]
  simp only [Cs.s,Cs.p]
  repeat' (first|(simp only [cM,dB,aAu,aGs,aG8,aBP,↓wA,↓wC,wB,cQ,cP,reduceEqDiff,reduceAdd,reduceSub,reduceIte,reduceCtorEq,Nat.reduceBEq,reduceLT])|(refine cO hD rfl rfl ?_)|(refine dN ?_)|(with_reducible refine And.intro ?_ ?_)|(with_reducible refine cW ?_ ?_; focus ((try simp only [List.length_append,List.length_cons,List.length_nil]); omega))|(with_reducible refine cV ?_ ?_; focus (simp only [eA]; omega))|((first|apply cJ|apply cK|apply cI)<;>intro h<;>try simp only [h]))
  all_goals simp only [aVK,aVz,aU0]
  all_goals have hpl:=aG0 1
  all_goals refine dU hs.length (fun i:Nat=>⟨[(1,.ptr 0 0 []),(3,.d (.str (pre 1 ++ (Lib.itoa d ++ mL (hs.take i))))),(4,.d (.int .i64 i))],[.box (.st (.cons (.int .i64 xi) (.cons (.int .i64 1) (.cons (.int .i64 d) (.cons (.sl false 1 (dl iD hs)) .nil)))))]⟩) (fun _=>True) (by rw [aHd,List.append_nil]; exact (cX _ rfl ⟨⟨rfl,rfl⟩,⟨rfl,rfl⟩,⟨rfl,rfl⟩,trivial⟩)) trivial ?_ ?_
  all_goals first
   |(intro _ hd
     repeat' (first|(simp only [cM,dB,cU,hd,List.take_length,↓wA,↓wC,wB,cQ,cP,reduceEqDiff,reduceAdd,reduceSub,reduceIte,reduceCtorEq,Nat.reduceBEq,reduceLT])|((first|apply cJ|apply cK|apply cI)<;>intro h<;>try simp only [h]))
     done)
   | skip
  all_goals
   intro i hlt _ hd h0
   obtain ⟨n,hr⟩:=dS hlt
   have hn5:=h5 n (List.mem_of_getElem? hr)
   have hN:=eW n hn5.1 hn5.2
   have hnl:=eJ n hn5.2
   have hTl:=uD (v:=hs.take i) (fun m hm=>(h5 m (List.mem_of_mem_take hm)).2)
   rw [List.length_take,Nat.min_eq_left (by omega)] at hTl
   by_cases hi0:i=0
   ·have hq:decide ((i:Int)=0)=true:=decide_eq_true (by omega)
    have hx:=aGM hr hi0
    repeat' (first|(simp only [cM,dB,cU,dC,hd,h0,hq,Int.toNat_natCast,hr,Option.map_some,eV,iD,↓wA,↓wC,wB,cQ,cP,reduceEqDiff,reduceAdd,reduceSub,reduceIte,reduceCtorEq,Nat.reduceBEq,reduceLT])|(refine cO hN rfl rfl ?_)|(with_reducible refine cW ?_ ?_; focus ((try simp only [List.length_append,List.length_cons,List.length_nil]); omega))|(with_reducible refine cV ?_ ?_; focus (simp only [eA]; omega))|((first|apply cJ|apply cK|apply cI)<;>intro h<;>try simp only [h]))
    all_goals (refine ⟨i + 1,?_,by omega,by omega⟩; rw [hx]; (try simp only [List.append_assoc,List.cons_append,List.nil_append]); exact (cX _ rfl ⟨⟨rfl,rfl⟩,⟨rfl,rfl⟩,⟨rfl,rfl⟩,trivial⟩))
   ·have hq:decide ((i:Int)=0)=false:=decide_eq_false (by omega)
    have hx:=aG1 hr hi0
    repeat' (first|(simp only [cM,dB,cU,dC,hd,h0,hq,Int.toNat_natCast,hr,Option.map_some,eV,iD,↓wA,↓wC,wB,cQ,cP,reduceEqDiff,reduceAdd,reduceSub,reduceIte,reduceCtorEq,Nat.reduceBEq,reduceLT])|(refine cO hN rfl rfl ?_)|(with_reducible refine cW ?_ ?_; focus ((try simp only [List.length_append,List.length_cons,List.length_nil]); omega))|(with_reducible refine cV ?_ ?_; focus (simp only [eA]; omega))|((first|apply cJ|apply cK|apply cI)<;>intro h<;>try simp only [h]))
    all_goals (refine ⟨i + 1,?_,by omega,by omega⟩; rw [hx]; (try simp only [List.append_assoc,List.cons_append,List.nil_append]); exact (cX _ rfl ⟨⟨rfl,rfl⟩,⟨rfl,rfl⟩,⟨rfl,rfl⟩,trivial⟩))
 ·skip
  refine c7 aLQ [] ?_
  dsimp only [aLQ,cY,dD]
  simp only [Cs.s,Cs.p]
  repeat' (first|(simp only [cM,dB,aAu,aGs,aG8,aBP,↓wA,↓wC,wB,cQ,cP,reduceEqDiff,reduceAdd,reduceSub,reduceIte,reduceCtorEq,Nat.reduceBEq,reduceLT])|(refine cO hD rfl rfl ?_)|(refine dN ?_)|(with_reducible refine And.intro ?_ ?_)|(with_reducible refine cW ?_ ?_; focus ((try simp only [List.length_append,List.length_cons,List.length_nil]); omega))|(with_reducible refine cV ?_ ?_; focus (simp only [eA]; omega))|((first|apply cJ|apply cK|apply cI)<;>intro h<;>try simp only [h]))
  all_goals simp only [aVK,aVz,aU0]
  all_goals have hpl:=aG0 2
  all_goals refine dU hs.length (fun i:Nat=>⟨[(1,.ptr 0 0 []),(3,.d (.str (pre 2 ++ (Lib.itoa d ++ mL (hs.take i))))),(4,.d (.int .i64 i))],[.box (.st (.cons (.int .i64 xi) (.cons (.int .i64 2) (.cons (.int .i64 d) (.cons (.sl false 1 (dl iD hs)) .nil)))))]⟩) (fun _=>True) (by rw [aHd,List.append_nil]; exact (cX _ rfl ⟨⟨rfl,rfl⟩,⟨rfl,rfl⟩,⟨rfl,rfl⟩,trivial⟩)) trivial ?_ ?_
  all_goals first
   |(intro _ hd
     repeat' (first|(simp only [cM,dB,cU,hd,List.take_length,↓wA,↓wC,wB,cQ,cP,reduceEqDiff,reduceAdd,reduceSub,reduceIte,reduceCtorEq,Nat.reduceBEq,reduceLT])|((first|apply cJ|apply cK|apply cI)<;>intro h<;>try simp only [h]))
     done)
   | skip
  all_goals
   intro i hlt _ hd h0
   obtain ⟨n,hr⟩:=dS hlt
   have hn5:=h5 n (List.mem_of_getElem? hr)
   have hN:=eW n hn5.1 hn5.2
   have hnl:=eJ n hn5.2
   have hTl:=uD (v:=hs.take i) (fun m hm=>(h5 m (List.mem_of_mem_take hm)).2)
   rw [List.length_take,Nat.min_eq_left (by omega)] at hTl
   by_cases hi0:i=0
   ·have hq:decide ((i:Int)=0)=true:=decide_eq_true (by omega)
    have hx:=aGM hr hi0
    repeat' (first|(simp only [cM,dB,cU,dC,hd,h0,hq,Int.toNat_natCast,hr,Option.map_some,eV,iD,↓wA,↓wC,wB,cQ,cP,reduceEqDiff,reduceAdd,reduceSub,reduceIte,reduceCtorEq,Nat.reduceBEq,reduceLT])|(refine cO hN rfl rfl ?_)|(with_reducible refine cW ?_ ?_; focus ((try simp only [List.length_append,List.length_cons,List.length_nil]); omega))|(with_reducible refine cV ?_ ?_; focus (simp only [eA]; omega))|((first|apply cJ|apply cK|apply cI)<;>intro h<;>try simp only [h]))
    all_goals (refine ⟨i + 1,?_,by omega,by omega⟩; rw [hx]; (try simp only [List.append_assoc,List.cons_append,List.nil_append]); exact (cX _ rfl ⟨⟨rfl,rfl⟩,⟨rfl,rfl⟩,⟨rfl,rfl⟩,trivial⟩))
   ·have hq:decide ((i:Int)=0)=false:=decide_eq_false (by omega)
    have hx:=aG1 hr hi0
    repeat' (first|(simp only [cM,dB,cU,dC,hd,h0,hq,Int.toNat_natCast,hr,Option.map_some,eV,iD,↓wA,↓wC,wB,cQ,cP,reduceEqDiff,reduceAdd,reduceSub,reduceIte,reduceCtorEq,Nat.reduceBEq,reduceLT])|(refine cO hN rfl rfl ?_)|(with_reducible refine cW ?_ ?_; focus ((try simp only [List.length_append,List.length_cons,List.length_nil]); omega))|(with_reducible refine cV ?_ ?_; focus (simp only [eA]; omega))|((first|apply cJ|apply cK|apply cI)<;>intro h<;>try simp only [h]))
    all_goals (refine ⟨i + 1,?_,by omega,by omega⟩; rw [hx]; (try simp only [List.append_assoc,List.cons_append,List.nil_append]); exact (cX _ rfl ⟨⟨rfl,rfl⟩,⟨rfl,rfl⟩,⟨rfl,rfl⟩,trivial⟩))
 ·skip
  refine c7 aLQ [] ?_
  dsimp only [aLQ,cY,dD]
  simp only [Cs.s,Cs.p]
  repeat' (first|(simp only [cM,dB,aAu,aGs,aG8,aBP,↓wA,↓wC,wB,cQ,cP,reduceEqDiff,reduceAdd,reduceSub,reduceIte,reduceCtorEq,Nat.reduceBEq,reduceLT])|(refine cO hD rfl rfl ?_)|(refine dN ?_)|(with_reducible refine And.intro ?_ ?_)|(with_reducible refine cW ?_ ?_; focus ((try simp only [List.length_append,List.length_cons,List.length_nil]); omega))|(with_reducible refine cV ?_ ?_; focus (simp only [eA]; omega))|((first|apply cJ|apply cK|apply cI)<;>intro h<;>try simp only [h]))
  all_goals simp only [aVK,aVz,aU0]
  all_goals have hpl:=aG0 3
  all_goals refine dU hs.length (fun i:Nat=>⟨[(1,.ptr 0 0 []),(3,.d (.str (pre 3 ++ (Lib.itoa d ++ mL (hs.take i))))),(4,.d (.int .i64 i))],[.box (.st (.cons (.int .i64 xi) (.cons (.int .i64 3) (.cons (.int .i64 d) (.cons (.sl false 1 (dl iD hs)) .nil)))))]⟩) (fun _=>True) (by rw [aHd,List.append_nil]; exact (cX _ rfl ⟨⟨rfl,rfl⟩,⟨rfl,rfl⟩,⟨rfl,rfl⟩,trivial⟩)) trivial ?_ ?_
  all_goals first
   |(intro _ hd
     repeat' (first|(simp only [cM,dB,cU,hd,List.take_length,↓wA,↓wC,wB,cQ,cP,reduceEqDiff,reduceAdd,reduceSub,reduceIte,reduceCtorEq,Nat.reduceBEq,reduceLT])|((first|apply cJ|apply cK|apply cI)<;>intro h<;>try simp only [h]))
     done)
   | skip
  all_goals
   intro i hlt _ hd h0
   obtain ⟨n,hr⟩:=dS hlt
   have hn5:=h5 n (List.mem_of_getElem? hr)
   have hN:=eW n hn5.1 hn5.2
   have hnl:=eJ n hn5.2
   have hTl:=uD (v:=hs.take i) (fun m hm=>(h5 m (List.mem_of_mem_take hm)).2)
   rw [List.length_take,Nat.min_eq_left (by omega)] at hTl
   by_cases hi0:i=0
   ·have hq:decide ((i:Int)=0)=true:=decide_eq_true (by omega)
    have hx:=aGM hr hi0
    repeat' (first|(simp only [cM,dB,cU,dC,hd,h0,hq,Int.toNat_natCast,hr,Option.map_some,eV,iD,↓wA,↓wC,wB,cQ,cP,reduceEqDiff,reduceAdd,reduceSub,reduceIte,reduceCtorEq,Nat.reduceBEq,reduceLT])|(refine cO hN rfl rfl ?_)|(with_reducible refine cW ?_ ?_; focus ((try simp only [List.length_append,List.length_cons,List.length_nil]); omega))|(with_reducible refine cV ?_ ?_; focus (simp only [eA]; omega))|((first|apply cJ|apply cK|apply cI)<;>intro h<;>try simp only [h]))
    all_goals (refine ⟨i + 1,?_,by omega,by omega⟩; rw [hx]; (try simp only [List.append_assoc,List.cons_append,List.nil_append]); exact (cX _ rfl ⟨⟨rfl,rfl⟩,⟨rfl,rfl⟩,⟨rfl,rfl⟩,trivial⟩))
   ·have hq:decide ((i:Int)=0)=false:=decide_eq_false (by omega)
    have hx:=aG1 hr hi0
    repeat' (first|(simp only [cM,dB,cU,dC,hd,h0,hq,Int.toNat_natCast,hr,Option.map_some,eV,iD,↓wA,↓wC,wB,cQ,cP,reduceEqDiff,reduceAdd,reduceSub,reduceIte,reduceCtorEq,Nat.reduceBEq,reduceLT])|(refine cO hN rfl rfl ?_)|(with_reducible refine cW ?_ ?_; focus ((try simp only [List.length_append,List.length_cons,List.length_nil]); omega))|(with_reducible refine cV ?_ ?_; focus (simp only [eA]; omega))|((first|apply cJ|apply cK|apply cI)<;>intro h<;>try simp only [h]))
    all_goals (refine ⟨i + 1,?_,by omega,by omega⟩; rw [hx]; (try simp only [List.append_assoc,List.cons_append,List.nil_append]); exact (cX _ rfl ⟨⟨rfl,rfl⟩,⟨rfl,rfl⟩,⟨rfl,rfl⟩,trivial⟩))
end Go.Pe.Tryz
namespace Go.Pe.Tryz
open Nat (reduceEqDiff reduceAdd reduceSub reduceLT)
open Go.Proofs.Tryz Go.Sort
theorem lE {x:Con}:fJ [1,2] x.s=7:=rfl
theorem lC {x:Con}:gC [1,2] x.s=some (.int .i64 x.c):=rfl
theorem iC {x:Off}:fJ [0] x.s=0:=rfl
theorem iL {x:Off}:fJ [1] x.s=1:=rfl
theorem lS {x:Off}:fJ [2] x.s=2:=rfl
theorem lR {x:Off}:fJ [3] x.s=3:=rfl
theorem iS {x:Off}:fJ [4] x.s=4:=rfl
theorem iB {x:Off}:gC [0] x.s=some (.int .i64 x.day):=rfl
theorem iP {x:Off}:gC [1] x.s=some (.sl false 4 (dl Cs.s x.cs)):=rfl
theorem lO {x:Off}:gC [2] x.s=some (.int .i64 x.kept):=rfl
theorem lQ {x:Off}:gC [3] x.s=some (.int .i64 x.moved):=rfl
theorem iR {x:Off}:gC [4] x.s=some (.sl false 1 (dl D.str x.led)):=rfl
end Go.Pe.Tryz
namespace Go.Pe.Tryz
open Nat (reduceEqDiff reduceAdd reduceSub reduceLT)
open Go.Proofs.Tryz
theorem aE4 (p:Cs->Bool) (g:Nat) (c:D) (xs:List Cs) (hc:c.caps=true) (he:g8 prog.P g=true) (hlen:xs.length<=1048576) (hp:∀ x∈xs,Fn prog g (Cs.s x :: c.list) (fun rs=>rs=[.bool (p x)])) :
  Fn prog 185 [.sl false 4 (dl Cs.s xs),.clo g c] (fun rs=>rs=[.int .i64 (mD p xs)]):=by
 refine c7 aUL [] ?_
 dsimp only [aUL,cY,dD]
 simp only [cU,↓wA,↓wC,wB,cQ,cP,reduceEqDiff,reduceAdd,reduceSub,reduceIte,reduceCtorEq,Nat.reduceBEq,reduceLT]
 refine dU xs.length (fun i:Nat=>⟨[(0,.d (.sl false 4 (dl Cs.s xs))),(1,.d (.clo g c)),(7,.d (.int .i64 xs.length)),(8,.d (.int .i64 i))],[]⟩) (fun i=>∀ j r,j < i->xs[j]?=some r->p r=false) (cX _ rfl ⟨⟨rfl,rfl⟩,⟨rfl,rfl⟩,⟨rfl,rfl⟩,⟨rfl,rfl⟩,trivial⟩) (fun j r hj=>by omega) ?_ ?_
 ·intro i hlt hinv hd h0
  obtain ⟨r,hr⟩:=dS hlt
  have hcl:=hp r (List.mem_of_getElem? hr)
  simp only [hd,h0,dC,Int.toNat_natCast,hr,Option.map_some,cM,↓iN,↓wA,↓wC,wB,cQ,cP,reduceEqDiff,reduceAdd,reduceSub,reduceIte,reduceCtorEq,Nat.reduceBEq,reduceLT]
  refine xS (ds:=[Cs.s r]) hcl he hc (by simp [dH,dQ,l9,aZF]) rfl ?_
  cases hpr:p r with
  | true =>
   simp only [↓wA,↓wC,wB,cQ,cP,reduceEqDiff,reduceAdd,reduceSub,reduceIte,reduceCtorEq,Nat.reduceBEq,reduceLT]
   rw [tT hr hpr hinv]
  | false =>
   simp only [↓wA,↓wC,wB,cQ,cP,reduceEqDiff,reduceAdd,reduceSub,reduceIte,reduceCtorEq,Nat.reduceBEq,reduceLT]
   refine cV (by simp only [eA]; omega) ?_
   refine fZ (cX _ rfl ⟨⟨rfl,rfl⟩,⟨rfl,rfl⟩,⟨rfl,rfl⟩,⟨rfl,rfl⟩,trivial⟩) hlt fun j s hj hs=>?_
   by_cases e:j=i
   ·subst e; rw [hr] at hs; injection hs with hs; rw [<- hs]; exact hpr
   ·exact hinv j s (by omega) hs
 ·intro hinv hd
  simp only [hd,↓wA,↓wC,wB,cQ,cP,reduceEqDiff,reduceAdd,reduceSub,reduceIte,reduceCtorEq,Nat.reduceBEq,reduceLT]
  rw [rM fun j r hj=>hinv j r (c6 hj) hj]
def gM (xs:List Cs) (id:Int):Int:=mD (fun x:Cs=>decide (x.i=id)) xs
theorem nX (xs:List Cs) (id:Int):(decide (gM xs id < 0)=true/\decide (0<=gM xs id)=false)\/∃ (i:Nat) (x:Cs),gM xs id=(i:Int)/\xs[i]?=some x/\x.i=id:=by
 by_cases h:0<=gM xs id
 ·obtain ⟨i,x,h1,h2,h3⟩:=aIe h
  exact .inr ⟨i,x,h1,h2,by simpa using h3⟩
 ·exact .inl ⟨decide_eq_true (by omega),decide_eq_false h⟩
theorem aKe (x:Cs) (id:Int):Fn prog 186 [x.s,.ptr (.int .i64 id)] (fun rs=>rs=[.bool (decide (x.i=id))]):=by
 refine c7 aUT [] ?_
 dsimp only [aUT,cY,dD]
 simp only [Cs.s,Cs.p]
 repeat' (first|(simp only [dB,cM,↓wA,↓wC,wB,cQ,cP,reduceEqDiff,reduceAdd,reduceSub,reduceIte,reduceCtorEq,Nat.reduceBEq,reduceLT])|((first|apply cJ|apply cK|apply cI)<;>intro h<;>try simp only [h]))
theorem aBF (o:Off) (id:Int) (ho:o.ok0):Fn prog 145 [o.s,.int .i64 id] (fun rs=>rs=[.int .i64 (gM o.cs id)]):=by
 have h:=aE4 (fun x=>decide (x.i=id)) 186 (.cons (.ptr (.int .i64 id)) .nil) o.cs rfl aX9 ho.1.1 (fun x _=>aKe x id)
 refine c7 aUv [[1,0]] ?_
 dsimp only [aUv,cY,dD]
 repeat' (first|(simp only [aZw,aZx,cM,↓wA,↓wC,wB,cQ,cP,reduceEqDiff,reduceAdd,reduceSub,reduceIte,reduceCtorEq,Nat.reduceBEq,reduceLT])|((first|apply cJ|apply cK|apply cI)<;>intro h<;>try simp only [h]))
 refine dF (iV 1 rfl) ?_
 repeat' (first|(simp only [aZw,aZx,↓dK,cM,c8,iL,iP,↓wA,↓wC,wB,cQ,cP,reduceEqDiff,reduceAdd,reduceSub,reduceIte,reduceCtorEq,Nat.reduceBEq,reduceLT])|(refine cO (h) rfl rfl ?_)|(refine cR (h) rfl rfl ?_)|((first|apply cJ|apply cK|apply cI)<;>intro h<;>try simp only [h]))
 all_goals rfl
theorem l8 (o:Off) (id:Int) (ho:o.ok0):Fn prog 171 [o.s,.int .i64 id] (fun rs=>rs=[.int .i64 (gM o.cs id)]):=by
 have hlen:=ho.1.1
 refine c7 aTx [] ?_
 dsimp only [aTx,cY,dD]
 repeat' (first|(simp only [aZw,aZx,cM,↓wA,↓wC,wB,cQ,cP,reduceEqDiff,reduceAdd,reduceSub,reduceIte,reduceCtorEq,Nat.reduceBEq,reduceLT])|((first|apply cJ|apply cK|apply cI)<;>intro h<;>try simp only [h]))
 refine dU o.cs.length (fun i:Nat=>⟨[(1,.d (.int .i64 id)),(2,.ptr 0 0 []),(5,.d (.int .i64 i))],[.box o.s]⟩) (fun i=>∀ j r,j < i->o.cs[j]?=some r->decide (r.i=id)=false) (cX _ rfl ⟨⟨rfl,rfl⟩,⟨rfl,rfl⟩,⟨rfl,rfl⟩,trivial⟩) (fun j r hj=>by omega) ?_ ?_
 ·intro i hlt hinv hd h0
  obtain ⟨r,hr⟩:=dS hlt
  cases h:decide (r.i=id) with
  | true =>
   repeat' (first|(simp only [cU,dC,hd,h0,h,Int.toNat_natCast,hr,Option.map_some,cM,c8,iL,iP,pB,↓wA,↓wC,wB,cQ,cP,reduceEqDiff,reduceAdd,reduceSub,reduceIte,reduceCtorEq,Nat.reduceBEq,reduceLT])|(refine cV (by simp only [eA]; omega) ?_)|((first|apply cJ|apply cK|apply cI)<;>intro h<;>try simp only [h]))
   all_goals rw [gM,tT hr h hinv]
  | false =>
   repeat' (first|(simp only [cU,dC,hd,h0,h,Int.toNat_natCast,hr,Option.map_some,cM,c8,iL,iP,pB,↓wA,↓wC,wB,cQ,cP,reduceEqDiff,reduceAdd,reduceSub,reduceIte,reduceCtorEq,Nat.reduceBEq,reduceLT])|(refine cV (by simp only [eA]; omega) ?_)|((first|apply cJ|apply cK|apply cI)<;>intro h<;>try simp only [h]))
   all_goals
    refine fZ (cX _ rfl ⟨⟨rfl,rfl⟩,⟨rfl,rfl⟩,⟨rfl,rfl⟩,trivial⟩) hlt fun j s hj hs=>?_
    by_cases e:j=i
    ·subst e; rw [hr] at hs; injection hs with hs; rw [<- hs]; exact h
    ·exact hinv j s (by omega) hs
 ·intro hinv hd
  repeat' (first|(simp only [cU,hd,c8,cM,iL,iP,↓wA,↓wC,wB,cQ,cP,reduceEqDiff,reduceAdd,reduceSub,reduceIte,reduceCtorEq,Nat.reduceBEq,reduceLT])|((first|apply cJ|apply cK|apply cI)<;>intro h<;>try simp only [h]))
  all_goals rw [gM,rM fun j r hj=>hinv j r (c6 hj) hj]
theorem y6 {o:Off} {i:Nat} {x:Cs} (h:dV o=true) (hr:o.cs[i]?=some x):gS x=true:=by
 simp only [dV,Bool.and_eq_true] at h
 have:=List.all_eq_true.1 h.2 i (List.mem_range.2 (c6 hr))
 rw [aAY hr,Bool.and_eq_true] at this
 exact this.1
def aDB (o:Off) (id:Int):List D:=if dV o=true then (if 0<=gM o.cs id then [.str (txt (o.cs[(gM o.cs id).toNat]?.getD ⟨0,0,0,[]⟩)),.bool true] else [.str [],.bool false]) else [.str [],.bool false]
theorem nD (o:Off) (id:Int) (ho:o.ok0):Fn prog 110 [o.s,.int .i64 id] (fun rs=>rs=aDB o id):=by
 have hV:=kP o ho
 have hF:=aBF o id ho
 unfold aDB
 cases hv:dV o with
 | false =>
  rw [hv] at hV
  refine c7 aFA [] ?_
  dsimp only [aFA,cY,dD]
  repeat' (first|(simp only [aZw,aZx,↓dK,cM,↓wA,↓wC,wB,cQ,cP,reduceEqDiff,reduceAdd,reduceSub,reduceIte,reduceCtorEq,Nat.reduceBEq,reduceLT])|(refine cO hF (by simp [dH,dQ,aZv]) rfl ?_)|(refine cO hV (by simp [dH,dQ,aZv]) rfl ?_)|((first|apply cJ|apply cK|apply cI)<;>intro h<;>try simp only [h]))
  all_goals simp
 | true =>
  rw [hv] at hV
  rcases nX o.cs id with ⟨hn,hn'⟩|⟨i,x,hi,hr,_⟩
  ·have hn2:=of_decide_eq_false hn'
   refine c7 aFA [] ?_
   dsimp only [aFA,cY,dD]
   repeat' (first|(simp only [hn,aZw,aZx,↓dK,cM,↓wA,↓wC,wB,cQ,cP,reduceEqDiff,reduceAdd,reduceSub,reduceIte,reduceCtorEq,Nat.reduceBEq,reduceLT])|(refine cO hF (by simp [dH,dQ,aZv]) rfl ?_)|(refine cO hV (by simp [dH,dQ,aZv]) rfl ?_)|((first|apply cJ|apply cK|apply cI)<;>intro h<;>try simp only [h]))
   all_goals simp [hn2]
  ·rw [hi] at hF ⊢
   have h0:(0:Int)<=(i:Int):=by omega
   have hn:decide ((i:Int) < 0)=false:=decide_eq_false (by omega)
   have hC:=aCc x (y6 hv hr)
   refine c7 aFA [] ?_
   dsimp only [aFA,cY,dD]
   repeat' (first|(simp only [hn,h0,dC,Int.toNat_natCast,hr,Option.map_some,aZw,aZx,↓dK,↓iN,c8,iL,iP,cM,↓wA,↓wC,wB,cQ,cP,reduceEqDiff,reduceAdd,reduceSub,reduceIte,reduceCtorEq,Nat.reduceBEq,reduceLT])|(refine cO hF (by simp [dH,dQ,aZv]) rfl ?_)|(refine cO hV (by simp [dH,dQ,aZv]) rfl ?_)|(refine cO hC (by simp [dH,dQ,aZF]) rfl ?_)|((first|apply cJ|apply cK|apply cI)<;>intro h<;>try simp only [h]))
   all_goals simp [hr]
theorem aCC (o:Off) (id:Int) (ho:o.ok0):Fn prog 163 [o.s,.int .i64 id] (fun rs=>rs=aDB o id):=by
 have hV:=gT o ho
 have hF:=l8 o id ho
 unfold aDB
 cases hv:dV o with
 | false =>
  rw [hv] at hV
  refine c7 aFv [] ?_
  dsimp only [aFv,cY,dD]
  repeat' (first|(simp only [aZw,aZx,↓dK,cM,↓wA,↓wC,wB,cQ,cP,reduceEqDiff,reduceAdd,reduceSub,reduceIte,reduceCtorEq,Nat.reduceBEq,reduceLT])|(refine cO hF (by simp [dH,dQ,aZv]) rfl ?_)|(refine cO hV (by simp [dH,dQ,aZv]) rfl ?_)|((first|apply cJ|apply cK|apply cI)<;>intro h<;>try simp only [h]))
  all_goals simp
 | true =>
  rw [hv] at hV
  rcases nX o.cs id with ⟨hn,hn'⟩|⟨i,x,hi,hr,_⟩
  ·have hn2:=of_decide_eq_false hn'
   refine c7 aFv [] ?_
   dsimp only [aFv,cY,dD]
   repeat' (first|(simp only [hn,aZw,aZx,↓dK,cM,↓wA,↓wC,wB,cQ,cP,reduceEqDiff,reduceAdd,reduceSub,reduceIte,reduceCtorEq,Nat.reduceBEq,reduceLT])|(refine cO hF (by simp [dH,dQ,aZv]) rfl ?_)|(refine cO hV (by simp [dH,dQ,aZv]) rfl ?_)|((first|apply cJ|apply cK|apply cI)<;>intro h<;>try simp only [h]))
   all_goals simp [hn2]
  ·rw [hi] at hF ⊢
   have h0:(0:Int)<=(i:Int):=by omega
   have hn:decide ((i:Int) < 0)=false:=decide_eq_false (by omega)
   have hC:=aAc x (y6 hv hr)
   refine c7 aFv [] ?_
   dsimp only [aFv,cY,dD]
   repeat' (first|(simp only [hn,h0,dC,Int.toNat_natCast,hr,Option.map_some,aZw,aZx,↓dK,↓iN,c8,iL,iP,cM,↓wA,↓wC,wB,cQ,cP,reduceEqDiff,reduceAdd,reduceSub,reduceIte,reduceCtorEq,Nat.reduceBEq,reduceLT])|(refine cO hF (by simp [dH,dQ,aZv]) rfl ?_)|(refine cO hV (by simp [dH,dQ,aZv]) rfl ?_)|(refine cO hC (by simp [dH,dQ,aZF]) rfl ?_)|((first|apply cJ|apply cK|apply cI)<;>intro h<;>try simp only [h]))
   all_goals simp [hr]
theorem aD6 {n:Int}:gC [] (iD n)=some (iD n):=rfl
theorem aEa {n:Int}:fJ [] (iD n)=0:=rfl
theorem aEJ {n:Int}:(iD n).size=1:=rfl
end Go.Pe.Tryz
namespace Go.Pe.Tryz
open Nat (reduceEqDiff reduceAdd reduceSub reduceLT)
open Go.Proofs.Tryz Go.Sort
end Go.Pe.Tryz
namespace Go.Pe.Tryz
open Nat (reduceEqDiff reduceAdd reduceSub reduceLT)
open Go.Proofs.Tryz
theorem m9 {x:Cs} {dh:D} {k:Int}:j8 [2] (x.p dh) (.int .i64 k)=Cs.p { x with d:=k } dh:=rfl
theorem fV {x:Cs} {dh u:D}:j8 [3] (x.p dh) u=x.p u:=rfl
theorem x7 {x:Cs} {dh:D}:fJ [0] (x.p dh)=0:=rfl
theorem nC {x:Cs} {dh:D}:fJ [2] (x.p dh)=2:=rfl
theorem iE {x:Cs} {dh:D}:fJ [3] (x.p dh)=3:=rfl
theorem xT {x:Cs} {dh:D}:gC [0] (x.p dh)=some (.int .i64 x.i):=rfl
theorem nB {x:Cs} {dh:D}:gC [2] (x.p dh)=some (.int .i64 x.d):=rfl
theorem fU {x:Cs} {dh:D}:gC [3] (x.p dh)=some dh:=rfl
theorem fW:∀ (xs:D) (i:Nat) (y z:D),(xs.setN i y).setN i z=xs.setN i z:=by
 intro xs
 induction xs with
 | cons a xs ih1 ih2=>intro i y z; cases i with
  | zero=>rfl
  | succ i=>simp only [D.setN]; rw [ih2]
 | _=>intro i y z; cases i<;>rfl
theorem aFr {xs:List Cs} {i:Nat} {x:Cs} (hr:xs[i]?=some x):xs.drop i=x :: xs.drop (i + 1):=by
 have hi:=c6 hr
 rw [List.drop_eq_getElem_cons hi]
 rw [List.getElem?_eq_getElem hi] at hr
 injection hr with hr
 rw [hr]
theorem qL {x:Off} {K:SV->Prop}:dL 0 0 (.d (.ptr x.s)) K=K (.d (.ptr (.int .i64 x.day))):=by simp [Off.s,d5,dL,D.pre,D.nth,D.size]
def nV (p:Cs->Bool) (xs:List Cs):List Int:=(xs.filter p).map Cs.i
theorem uG {p:Cs->Bool} {xs:List Cs} {i:Nat} {x:Cs} (hr:xs[i]?=some x):nV p (xs.take (i + 1))=nV p (xs.take i) ++ (if p x=true then [x.i] else []):=by
 unfold nV
 rw [fY hr,List.filter_append,List.map_append]
 cases h:p x<;>simp [h]
theorem tO (p:Cs->Bool) (xs:List Cs):(nV p xs).length<=xs.length:=by
 unfold nV
 rw [List.length_map]
 exact List.length_filter_le _ _
theorem g7 (V:List Int) (n:Int):(dl iD V).app (D.cons (.int .i64 n) .nil)=dl iD (V ++ [n]):=iT (f:=iD) V n
theorem zQ (p:Cs->Bool) (g:Nat) (c:D) (o:Off) (ho:o.ok0) (hc:c.caps=true) (he:g8 prog.P g=true) (hp:∀ x∈o.cs,Fn prog g (x.s :: c.list) (fun rs=>rs=[.bool (p x)])):Fn prog 149 [o.s,.clo g c] (fun rs=>rs=[.sl true 1 (dl iD (nV p o.cs))]):=by
 have hlen:=ho.1.1
 refine c7 aTM [] ?_
 dsimp only [aTM,cY,dD]
 repeat' (first|(simp only [aZw,aZx,cM,cU,c8,iL,iP,↓wA,↓wC,wB,cQ,cP,reduceEqDiff,reduceAdd,reduceSub,reduceIte,reduceCtorEq,Nat.reduceBEq,reduceLT])|((first|apply cJ|apply cK|apply cI)<;>intro h<;>try simp only [h]))
 refine sI [(5,1)] o.cs.length (fun i:Nat=>⟨[(1,.d (.clo g c)),(5,.own 1),(9,.d (.sl false 4 (dl Cs.s o.cs))),(10,.d (.int .i64 o.cs.length)),(11,.d (.int .i64 i))],[.box o.s,.val (.sl true 1 (dl iD (nV p (o.cs.take i))))]⟩) (fun _=>True) ⟨rfl,trivial⟩ ?_ trivial ?_ ?_
 ·exact (cX _ rfl ⟨⟨rfl,rfl⟩,⟨rfl,rfl⟩,⟨rfl,rfl⟩,⟨rfl,rfl⟩,⟨rfl,rfl⟩,trivial⟩)
 ·intro i hlt _ hd h0
  obtain ⟨x,hr⟩:=dS hlt
  have hW:=hp x (List.mem_of_getElem? hr)
  have hsn:=uG (p:=p) hr
  have hvl:=tO p (o.cs.take i)
  rw [List.length_take,Nat.min_eq_left (by omega)] at hvl
  repeat' (first|(simp only [cU,hd,h0,dC,Int.toNat_natCast,hr,Option.map_some,cM,↓iN,aZE,aZD,aZG,↓wA,↓wC,wB,cQ,cP,reduceEqDiff,reduceAdd,reduceSub,reduceIte,reduceCtorEq,Nat.reduceBEq,reduceLT])|((first|apply cJ|apply cK|apply cI)<;>intro h<;>try simp only [h]))
  refine xS (ds:=[x.s]) hW he hc (by simp [dH,dQ,l9,aZF]) rfl ?_
  cases hw:p x with
  | false =>
   rw [hw] at hsn
   repeat' (first|(simp only [cM,↓wA,↓wC,wB,cQ,cP,reduceEqDiff,reduceAdd,reduceSub,reduceIte,reduceCtorEq,Nat.reduceBEq,reduceLT])|(with_reducible refine cV ?_ ?_; focus (simp only [eA]; omega))|((first|apply cJ|apply cK|apply cI)<;>intro h<;>try simp only [h]))
   refine ⟨i + 1,?_,by omega,by omega⟩
   rw [hsn]
   simp only [Bool.false_eq_true,if_false,List.append_nil]
   exact (cX _ rfl ⟨⟨rfl,rfl⟩,⟨rfl,rfl⟩,⟨rfl,rfl⟩,⟨rfl,rfl⟩,⟨rfl,rfl⟩,trivial⟩)
  | true =>
   rw [hw] at hsn
   repeat' (first|(simp only [cU,cM,hZ,g9,g7,↓wA,↓wC,wB,cQ,cP,reduceEqDiff,reduceAdd,reduceSub,reduceIte,reduceCtorEq,Nat.reduceBEq,reduceLT])|(with_reducible refine cV ?_ ?_; focus (simp only [eA]; omega))|(with_reducible refine cW ?_ ?_; focus omega)|(with_reducible refine cW ?_ ?_; focus (simp; done))|((first|apply cJ|apply cK|apply cI)<;>intro h<;>try simp only [h]))
   refine ⟨i + 1,?_,by omega,by omega⟩
   rw [hsn]
   simp only [if_true]
   exact (cX _ rfl ⟨⟨rfl,rfl⟩,⟨rfl,rfl⟩,⟨rfl,rfl⟩,⟨rfl,rfl⟩,⟨rfl,rfl⟩,trivial⟩)
 ·intro _ hd
  repeat' (first|(simp only [hd,List.take_length,↓wA,↓wC,wB,cQ,cP,reduceEqDiff,reduceAdd,reduceSub,reduceIte,reduceCtorEq,Nat.reduceBEq,reduceLT])|((first|apply cJ|apply cK|apply cI)<;>intro h<;>try simp only [h]))
def tK (o:Off) (x:Cs):Bool:=decide (x.d<=o.day)
def aCD (b:Bool) (p:Cs->Bool) (o:Off):List D:=if dV o=true then [.sl b 1 (dl iD (nV p o.cs)),.bool true] else [.sl true 1 .nil,.bool false]
theorem aMz (o:Off) (x:Cs):Fn prog 152 [x.s,.ptr o.s] (fun rs=>rs=[.bool (tK o x)]):=by
 refine c7 aUI [] ?_
 dsimp only [aUI,cY,dD]
 repeat' (first|(simp only [cM,aZG,aZE,jW,jV,qL,↓wA,↓wC,wB,cQ,cP,reduceEqDiff,reduceAdd,reduceSub,reduceIte,reduceCtorEq,Nat.reduceBEq,reduceLT])|((first|apply cJ|apply cK|apply cI)<;>intro h<;>try simp only [h]))
 all_goals rfl
theorem aJE (o:Off) (ho:o.ok0):Fn prog 107 [o.s] (fun rs=>rs=aCD true (tK o) o):=by
 have hV:=kP o ho
 have h:=zQ (tK o) 152 (.cons (.ptr o.s) .nil) o ho rfl aWT (fun x _=>aMz o x)
 unfold aCD
 cases hv:dV o with
 | false =>
  rw [hv] at hV
  refine c7 aLv [] ?_
  dsimp only [aLv,cY,dD]
  repeat' (first|(simp only [aZw,aZx,↓dK,cM,↓wA,↓wC,wB,cQ,cP,reduceEqDiff,reduceAdd,reduceSub,reduceIte,reduceCtorEq,Nat.reduceBEq,reduceLT])|(refine cO hV (by simp [dH,dQ,aZv]) rfl ?_)|((first|apply cJ|apply cK|apply cI)<;>intro h<;>try simp only [h]))
  all_goals (refine lH 1 ?_; simp)
 | true =>
  rw [hv] at hV
  refine c7 aLv [[1,1,0]] ?_
  dsimp only [aLv,cY,dD]
  repeat' (first|(simp only [aZw,aZx,↓dK,cM,↓wA,↓wC,wB,cQ,cP,reduceEqDiff,reduceAdd,reduceSub,reduceIte,reduceCtorEq,Nat.reduceBEq,reduceLT])|(refine cO hV (by simp [dH,dQ,aZv]) rfl ?_)|((first|apply cJ|apply cK|apply cI)<;>intro h<;>try simp only [h]))
  refine dF (iV 0 rfl) ?_
  repeat' (first|(simp only [aZw,aZx,↓dK,cM,aZv,↓wA,↓wC,wB,cQ,cP,reduceEqDiff,reduceAdd,reduceSub,reduceIte,reduceCtorEq,Nat.reduceBEq,reduceLT])|(refine cO h (by simp [dH,dQ,aZv]) rfl ?_)|((first|apply cJ|apply cK|apply cI)<;>intro h<;>try simp only [h]))
  all_goals trace_state
def sY (o:Off) (x:Cs):Bool:=decide (x.d<=o.day) && decide (x.a=3) && decide (0 < (x.h.length:Int))
theorem aMn (o:Off) (x:Cs):Fn prog 153 [x.s,.ptr o.s] (fun rs=>rs=[.bool (sY o x)]):=by
 unfold sY
 cases h1:decide (x.d<=o.day)<;>cases h2:decide (x.a=3)
 all_goals
  refine c7 aUU [] ?_
  dsimp only [aUU,cY,dD]
  repeat' (first|(simp only [h1,h2,cU,dB,cM,aZG,aZE,kG,kF,jW,jV,iQ,iK,qL,↓wA,↓wC,wB,cQ,cP,reduceEqDiff,reduceAdd,reduceSub,reduceIte,reduceCtorEq,Nat.reduceBEq,reduceLT])|((first|apply cJ|apply cK|apply cI)<;>intro h<;>try simp only [h]))
  all_goals simp
theorem aJ2 (o:Off) (ho:o.ok0):Fn prog 108 [o.s] (fun rs=>rs=aCD true (sY o) o):=by
 have hV:=kP o ho
 have h:=zQ (sY o) 153 (.cons (.ptr o.s) .nil) o ho rfl aYh (fun x _=>aMn o x)
 unfold aCD
 cases hv:dV o with
 | false =>
  rw [hv] at hV
  refine c7 aLd [] ?_
  dsimp only [aLd,cY,dD]
  repeat' (first|(simp only [aZw,aZx,↓dK,cM,↓wA,↓wC,wB,cQ,cP,reduceEqDiff,reduceAdd,reduceSub,reduceIte,reduceCtorEq,Nat.reduceBEq,reduceLT])|(refine cO hV (by simp [dH,dQ,aZv]) rfl ?_)|((first|apply cJ|apply cK|apply cI)<;>intro h<;>try simp only [h]))
  all_goals (refine lH 1 ?_; simp)
 | true =>
  rw [hv] at hV
  refine c7 aLd [[1,1,0]] ?_
  dsimp only [aLd,cY,dD]
  repeat' (first|(simp only [aZw,aZx,↓dK,cM,↓wA,↓wC,wB,cQ,cP,reduceEqDiff,reduceAdd,reduceSub,reduceIte,reduceCtorEq,Nat.reduceBEq,reduceLT])|(refine cO hV (by simp [dH,dQ,aZv]) rfl ?_)|((first|apply cJ|apply cK|apply cI)<;>intro h<;>try simp only [h]))
  refine dF (iV 0 rfl) ?_
  repeat' (first|(simp only [aZw,aZx,↓dK,cM,aZv,↓wA,↓wC,wB,cQ,cP,reduceEqDiff,reduceAdd,reduceSub,reduceIte,reduceCtorEq,Nat.reduceBEq,reduceLT])|(refine cO h (by simp [dH,dQ,aZv]) rfl ?_)|((first|apply cJ|apply cK|apply cI)<;>intro h<;>try simp only [h]))
  all_goals trace_state
def aDd (n:Int) (x:Cs):Bool:=x.h.contains n
def aMc (n:Int) (o:Off):List D:=if dV o=true/\dE n 1 9=true then [.sl true 1 (dl iD (nV (aDd n) o.cs)),.bool true] else [.sl true 1 .nil,.bool false]
theorem aNx (n:Int):Fn prog 133 [.int .i64 n] (fun rs=>rs=[.bool (dE n 1 9)]):=by
 refine c7 aK8 [] ?_
 dsimp only [aK8,cY,dD]
 repeat' (first|(simp only [↓wA,↓wC,wB,cQ,cP,reduceEqDiff,reduceAdd,reduceSub,reduceIte,reduceCtorEq,Nat.reduceBEq,reduceLT])|(refine cO (fL _ _ _) rfl rfl ?_)|(refine cR (fL _ _ _) rfl rfl ?_)|((first|apply cJ|apply cK|apply cI)<;>intro h<;>try simp only [h]))
theorem aMM (n:Int) (x:Cs) (hx:x.ok0):Fn prog 150 [x.s,.ptr (.int .i64 n)] (fun rs=>rs=[.bool (aDd n x)]):=by
 have h:=aAI x.h n hx
 refine c7 aUn [] ?_
 dsimp only [aUn,cY,dD]
 repeat' (first|(simp only [dB,cM,aZG,aZE,iQ,iK,↓wA,↓wC,wB,cQ,cP,reduceEqDiff,reduceAdd,reduceSub,reduceIte,reduceCtorEq,Nat.reduceBEq,reduceLT])|(refine cO (h) rfl rfl ?_)|(refine cR (h) rfl rfl ?_)|((first|apply cJ|apply cK|apply cI)<;>intro h<;>try simp only [h]))
 all_goals rfl
theorem aI9 (o:Off) (n:Int) (ho:o.ok0):Fn prog 105 [o.s,.int .i64 n] (fun rs=>rs=aMc n o):=by
 have hV:=kP o ho
 have hN:=aNx n
 have h:=zQ (aDd n) 150 (.cons (.ptr (.int .i64 n)) .nil) o ho rfl aXg (fun x hx=>aMM n x (ho.1.2 x hx))
 unfold aMc
 cases hv:dV o with
 | false =>
  rw [hv] at hV
  refine c7 aF4 [] ?_
  dsimp only [aF4,cY,dD]
  repeat' (first|(simp only [aZw,aZx,↓dK,cM,↓wA,↓wC,wB,cQ,cP,reduceEqDiff,reduceAdd,reduceSub,reduceIte,reduceCtorEq,Nat.reduceBEq,reduceLT])|(refine cO hV (by simp [dH,dQ,aZv]) rfl ?_)|((first|apply cJ|apply cK|apply cI)<;>intro h<;>try simp only [h]))
  all_goals (refine lH 1 ?_; simp)
 | true =>
  rw [hv] at hV
  cases hn:dE n 1 9 with
  | false =>
   rw [hn] at hN
   refine c7 aF4 [] ?_
   dsimp only [aF4,cY,dD]
   repeat' (first|(simp only [aZw,aZx,↓dK,cM,↓wA,↓wC,wB,cQ,cP,reduceEqDiff,reduceAdd,reduceSub,reduceIte,reduceCtorEq,Nat.reduceBEq,reduceLT])|(refine cO (hN) rfl rfl ?_)|(refine cR (hN) rfl rfl ?_)|(refine cO hV (by simp [dH,dQ,aZv]) rfl ?_)|((first|apply cJ|apply cK|apply cI)<;>intro h<;>try simp only [h]))
   all_goals (refine lH 1 ?_; simp)
  | true =>
   rw [hn] at hN
   refine c7 aF4 [[1,1,0]] ?_
   dsimp only [aF4,cY,dD]
   repeat' (first|(simp only [aZw,aZx,↓dK,cM,↓wA,↓wC,wB,cQ,cP,reduceEqDiff,reduceAdd,reduceSub,reduceIte,reduceCtorEq,Nat.reduceBEq,reduceLT])|(refine cO (hN) rfl rfl ?_)|(refine cR (hN) rfl rfl ?_)|(refine cO hV (by simp [dH,dQ,aZv]) rfl ?_)|((first|apply cJ|apply cK|apply cI)<;>intro h<;>try simp only [h]))
   refine dF (iV 1 rfl) ?_
   repeat' (first|(simp only [aZw,aZx,↓dK,cM,aZv,D.unown,↓wA,↓wC,wB,cQ,cP,reduceEqDiff,reduceAdd,reduceSub,reduceIte,reduceCtorEq,Nat.reduceBEq,reduceLT])|(refine cO h (by simp [dH,dQ,aZv]) rfl ?_)|((first|apply cJ|apply cK|apply cI)<;>intro h<;>try simp only [h]))
   all_goals simp
theorem aJA (o:Off) (ho:o.ok0):Fn prog 119 [o.s] (fun rs=>rs=aCD true (tK o) o):=by
 have hlen:=ho.1.1
 have hV:=gT o ho
 unfold aCD
 cases hv:dV o with
 | false =>
  rw [hv] at hV
  refine c7 aLK [] ?_
  dsimp only [aLK,cY,dD]
  repeat' (first|(simp only [aZw,aZx,↓dK,cM,↓wA,↓wC,wB,cQ,cP,reduceEqDiff,reduceAdd,reduceSub,reduceIte,reduceCtorEq,Nat.reduceBEq,reduceLT])|(refine cO hV (by simp [dH,dQ,aZv]) rfl ?_)|((first|apply cJ|apply cK|apply cI)<;>intro h<;>try simp only [h]))
  all_goals simp
 | true =>
  rw [hv] at hV
  refine c7 aLK [] ?_
  dsimp only [aLK,cY,dD]
  repeat' (first|(simp only [aZw,aZx,↓dK,cM,↓wA,↓wC,wB,cQ,cP,reduceEqDiff,reduceAdd,reduceSub,reduceIte,reduceCtorEq,Nat.reduceBEq,reduceLT])|(refine cO hV (by simp [dH,dQ,aZv]) rfl ?_)|((first|apply cJ|apply cK|apply cI)<;>intro h<;>try simp only [h]))
  refine dU o.cs.length (fun i:Nat=>⟨[(1,.ptr 0 0 []),(4,.own 1),(5,.d (.int .i64 i))],[.box o.s,.val (.sl true 1 (dl iD (nV (tK o) (o.cs.take i))))]⟩) (fun _=>True) (cX _ rfl ⟨⟨rfl,rfl⟩,⟨rfl,rfl⟩,⟨rfl,rfl⟩,trivial⟩) trivial ?_ ?_
  ·intro i hlt _ hd h0
   obtain ⟨x,hr⟩:=dS hlt
   have hxo:=ho.1.2 x (List.mem_of_getElem? hr)
   have hsn:=uG (p:=tK o) hr
   have hvl:=tO (tK o) (o.cs.take i)
   rw [List.length_take,Nat.min_eq_left (by omega)] at hvl
   skip
   cases hw:tK o x with
   | false =>
    rw [hw] at hsn
    unfold tK at hw; have h1:=hw; have h2:=hw; have h3:=hw
    repeat' (first|(simp only [cU,hd,h0,dC,Int.toNat_natCast,hr,Option.map_some,cM,c8,iC,iB,iL,iP,↓iN,dB,pB,zV,vR,xC,hZ,g9,kG,kF,jW,jV,iQ,iK,aZE,aZD,aZG,h1,h2,h3,↓wA,↓wC,wB,cQ,cP,reduceEqDiff,reduceAdd,reduceSub,reduceIte,reduceCtorEq,Nat.reduceBEq,reduceLT])|(refine cO (hV) rfl rfl ?_)|(refine cR (hV) rfl rfl ?_)|(with_reducible refine cV ?_ ?_; focus (simp only [eA]; omega))|((first|apply cJ|apply cK|apply cI)<;>intro h<;>try simp only [h]))
    all_goals first
     |(refine ⟨i + 1,?_,by omega,by omega⟩
       rw [hsn]
       simp only [Bool.false_eq_true,if_false,List.append_nil]
       exact (cX _ rfl ⟨⟨rfl,rfl⟩,⟨rfl,rfl⟩,⟨rfl,rfl⟩,trivial⟩))
     |(exfalso; simp_all; done)
   | true =>
    rw [hw] at hsn
    unfold tK at hw; have h1:=hw; have h2:=hw; have h3:=hw
    repeat' (first|(simp only [cU,hd,h0,dC,Int.toNat_natCast,hr,Option.map_some,cM,c8,iC,iB,iL,iP,↓iN,dB,pB,zV,vR,xC,hZ,g9,kG,kF,jW,jV,iQ,iK,aZE,aZD,aZG,g7,h1,h2,h3,↓wA,↓wC,wB,cQ,cP,reduceEqDiff,reduceAdd,reduceSub,reduceIte,reduceCtorEq,Nat.reduceBEq,reduceLT])|(refine cO (hV) rfl rfl ?_)|(refine cR (hV) rfl rfl ?_)|(with_reducible refine cV ?_ ?_; focus (simp only [eA]; omega))|(with_reducible refine cW ?_ ?_; focus omega)|(with_reducible refine cW ?_ ?_; focus (simp; done))|((first|apply cJ|apply cK|apply cI)<;>intro h<;>try simp only [h]))
    all_goals first
     |(refine ⟨i + 1,?_,by omega,by omega⟩
       rw [hsn]
       simp only [if_true]
       exact (cX _ rfl ⟨⟨rfl,rfl⟩,⟨rfl,rfl⟩,⟨rfl,rfl⟩,trivial⟩))
     |(exfalso; simp_all; done)
  ·intro _ hd
   repeat' (first|(simp only [hd,cU,List.take_length,c8,iL,iP,cM,↓wA,↓wC,wB,cQ,cP,reduceEqDiff,reduceAdd,reduceSub,reduceIte,reduceCtorEq,Nat.reduceBEq,reduceLT])|((first|apply cJ|apply cK|apply cI)<;>intro h<;>try simp only [h]))
theorem aC2 (o:Off) (ho:o.ok0):Fn prog 121 [o.s] (fun rs=>rs=aCD true (sY o) o):=by
 have hlen:=ho.1.1
 have hV:=gT o ho
 unfold aCD
 cases hv:dV o with
 | false =>
  rw [hv] at hV
  refine c7 aLp [] ?_
  dsimp only [aLp,cY,dD]
  repeat' (first|(simp only [aZw,aZx,↓dK,cM,↓wA,↓wC,wB,cQ,cP,reduceEqDiff,reduceAdd,reduceSub,reduceIte,reduceCtorEq,Nat.reduceBEq,reduceLT])|(refine cO hV (by simp [dH,dQ,aZv]) rfl ?_)|((first|apply cJ|apply cK|apply cI)<;>intro h<;>try simp only [h]))
  all_goals simp
 | true =>
  rw [hv] at hV
  refine c7 aLp [] ?_
  dsimp only [aLp,cY,dD]
  repeat' (first|(simp only [aZw,aZx,↓dK,cM,↓wA,↓wC,wB,cQ,cP,reduceEqDiff,reduceAdd,reduceSub,reduceIte,reduceCtorEq,Nat.reduceBEq,reduceLT])|(refine cO hV (by simp [dH,dQ,aZv]) rfl ?_)|((first|apply cJ|apply cK|apply cI)<;>intro h<;>try simp only [h]))
  refine dU o.cs.length (fun i:Nat=>⟨[(1,.ptr 0 0 []),(4,.own 1),(5,.d (.int .i64 i))],[.box o.s,.val (.sl true 1 (dl iD (nV (sY o) (o.cs.take i))))]⟩) (fun _=>True) (cX _ rfl ⟨⟨rfl,rfl⟩,⟨rfl,rfl⟩,⟨rfl,rfl⟩,trivial⟩) trivial ?_ ?_
  ·intro i hlt _ hd h0
   obtain ⟨x,hr⟩:=dS hlt
   have hxo:=ho.1.2 x (List.mem_of_getElem? hr)
   have hsn:=uG (p:=sY o) hr
   have hvl:=tO (sY o) (o.cs.take i)
   rw [List.length_take,Nat.min_eq_left (by omega)] at hvl
   skip
   cases hw:sY o x with
   | false =>
    rw [hw] at hsn
    unfold sY at hw; cases h1:decide (x.d<=o.day)<;>cases h2:decide (x.a=3)<;>cases h3:decide (0 < (x.h.length:Int))<;>simp only [h1,h2,h3,Bool.true_and,Bool.false_and,Bool.and_true,Bool.and_false,Bool.true_eq_false,Bool.false_eq_true] at hw
    repeat' (first|(simp only [cU,hd,h0,dC,Int.toNat_natCast,hr,Option.map_some,cM,c8,iC,iB,iL,iP,↓iN,dB,pB,zV,vR,xC,hZ,g9,kG,kF,jW,jV,iQ,iK,aZE,aZD,aZG,h1,h2,h3,↓wA,↓wC,wB,cQ,cP,reduceEqDiff,reduceAdd,reduceSub,reduceIte,reduceCtorEq,Nat.reduceBEq,reduceLT])|(refine cO (hV) rfl rfl ?_)|(refine cR (hV) rfl rfl ?_)|(with_reducible refine cV ?_ ?_; focus (simp only [eA]; omega))|((first|apply cJ|apply cK|apply cI)<;>intro h<;>try simp only [h]))
    all_goals first
     |(refine ⟨i + 1,?_,by omega,by omega⟩
       rw [hsn]
       simp only [Bool.false_eq_true,if_false,List.append_nil]
       exact (cX _ rfl ⟨⟨rfl,rfl⟩,⟨rfl,rfl⟩,⟨rfl,rfl⟩,trivial⟩))
     |(exfalso; simp_all; done)
   | true =>
    rw [hw] at hsn
    unfold sY at hw; cases h1:decide (x.d<=o.day)<;>cases h2:decide (x.a=3)<;>cases h3:decide (0 < (x.h.length:Int))<;>simp only [h1,h2,h3,Bool.true_and,Bool.false_and,Bool.and_true,Bool.and_false,Bool.true_eq_false,Bool.false_eq_true] at hw
    repeat' (first|(simp only [cU,hd,h0,dC,Int.toNat_natCast,hr,Option.map_some,cM,c8,iC,iB,iL,iP,↓iN,dB,pB,zV,vR,xC,hZ,g9,kG,kF,jW,jV,iQ,iK,aZE,aZD,aZG,g7,h1,h2,h3,↓wA,↓wC,wB,cQ,cP,reduceEqDiff,reduceAdd,reduceSub,reduceIte,reduceCtorEq,Nat.reduceBEq,reduceLT])|(refine cO (hV) rfl rfl ?_)|(refine cR (hV) rfl rfl ?_)|(with_reducible refine cV ?_ ?_; focus (simp only [eA]; omega))|(with_reducible refine cW ?_ ?_; focus omega)|(with_reducible refine cW ?_ ?_; focus (simp; done))|((first|apply cJ|apply cK|apply cI)<;>intro h<;>try simp only [h]))
    all_goals first
     |(refine ⟨i + 1,?_,by omega,by omega⟩
       rw [hsn]
       simp only [if_true]
       exact (cX _ rfl ⟨⟨rfl,rfl⟩,⟨rfl,rfl⟩,⟨rfl,rfl⟩,trivial⟩))
     |(exfalso; simp_all; done)
  ·intro _ hd
   repeat' (first|(simp only [hd,cU,List.take_length,c8,iL,iP,cM,↓wA,↓wC,wB,cQ,cP,reduceEqDiff,reduceAdd,reduceSub,reduceIte,reduceCtorEq,Nat.reduceBEq,reduceLT])|((first|apply cJ|apply cK|apply cI)<;>intro h<;>try simp only [h]))
theorem aJb (o:Off) (n:Int) (ho:o.ok0):Fn prog 123 [o.s,.int .i64 n] (fun rs=>rs=aMc n o):=by
 have hlen:=ho.1.1
 have hV:=gT o ho
 have hN:=jL n 1 9
 unfold aMc
 cases hv:dV o with
 | false =>
  rw [hv] at hV
  refine c7 aF6 [] ?_
  dsimp only [aF6,cY,dD]
  repeat' (first|(simp only [aZw,aZx,↓dK,cM,↓wA,↓wC,wB,cQ,cP,reduceEqDiff,reduceAdd,reduceSub,reduceIte,reduceCtorEq,Nat.reduceBEq,reduceLT])|(refine cO hV (by simp [dH,dQ,aZv]) rfl ?_)|((first|apply cJ|apply cK|apply cI)<;>intro h<;>try simp only [h]))
  all_goals simp
 | true =>
  rw [hv] at hV
  cases hn:dE n 1 9 with
  | false =>
   rw [hn] at hN
   refine c7 aF6 [] ?_
   dsimp only [aF6,cY,dD]
   repeat' (first|(simp only [aZw,aZx,↓dK,cM,↓wA,↓wC,wB,cQ,cP,reduceEqDiff,reduceAdd,reduceSub,reduceIte,reduceCtorEq,Nat.reduceBEq,reduceLT])|(refine cO (hN) rfl rfl ?_)|(refine cR (hN) rfl rfl ?_)|(refine cO hV (by simp [dH,dQ,aZv]) rfl ?_)|((first|apply cJ|apply cK|apply cI)<;>intro h<;>try simp only [h]))
   all_goals simp
  | true =>
   rw [hn] at hN
   refine c7 aF6 [] ?_
   dsimp only [aF6,cY,dD]
   repeat' (first|(simp only [aZw,aZx,↓dK,cM,↓wA,↓wC,wB,cQ,cP,reduceEqDiff,reduceAdd,reduceSub,reduceIte,reduceCtorEq,Nat.reduceBEq,reduceLT])|(refine cO (hN) rfl rfl ?_)|(refine cR (hN) rfl rfl ?_)|(refine cO hV (by simp [dH,dQ,aZv]) rfl ?_)|((first|apply cJ|apply cK|apply cI)<;>intro h<;>try simp only [h]))
   refine dU o.cs.length (fun i:Nat=>⟨[(1,.d (.int .i64 n)),(2,.ptr 0 0 []),(6,.own 1),(7,.d (.int .i64 i))],[.box o.s,.val (.sl true 1 (dl iD (nV (aDd n) (o.cs.take i))))]⟩) (fun _=>True) (cX _ rfl ⟨⟨rfl,rfl⟩,⟨rfl,rfl⟩,⟨rfl,rfl⟩,⟨rfl,rfl⟩,trivial⟩) trivial ?_ ?_
   ·intro i hlt _ hd h0
    obtain ⟨x,hr⟩:=dS hlt
    have hxo:=ho.1.2 x (List.mem_of_getElem? hr)
    have hsn:=uG (p:=aDd n) hr
    have hvl:=tO (aDd n) (o.cs.take i)
    rw [List.length_take,Nat.min_eq_left (by omega)] at hvl
    have hHas:=aIN x.h n hxo
    cases hw:aDd n x with
    | false =>
     rw [hw] at hsn
     unfold aDd at hw; rw [hw] at hHas; have h1:=hw; have h2:=hw; have h3:=hw
     repeat' (first|(simp only [cU,hd,h0,dC,Int.toNat_natCast,hr,Option.map_some,cM,c8,iC,iB,iL,iP,↓iN,dB,pB,zV,vR,xC,hZ,g9,kG,kF,jW,jV,iQ,iK,aZE,aZD,aZG,h1,h2,h3,↓wA,↓wC,wB,cQ,cP,reduceEqDiff,reduceAdd,reduceSub,reduceIte,reduceCtorEq,Nat.reduceBEq,reduceLT])|(refine cO (hHas) rfl rfl ?_)|(refine cR (hHas) rfl rfl ?_)|(with_reducible refine cV ?_ ?_; focus (simp only [eA]; omega))|((first|apply cJ|apply cK|apply cI)<;>intro h<;>try simp only [h]))
     all_goals first
      |(refine ⟨i + 1,?_,by omega,by omega⟩
        rw [hsn]
        simp only [Bool.false_eq_true,if_false,List.append_nil]
        exact (cX _ rfl ⟨⟨rfl,rfl⟩,⟨rfl,rfl⟩,⟨rfl,rfl⟩,⟨rfl,rfl⟩,trivial⟩))
      |(exfalso; simp_all; done)
    | true =>
     rw [hw] at hsn
     unfold aDd at hw; rw [hw] at hHas; have h1:=hw; have h2:=hw; have h3:=hw
     repeat' (first|(simp only [cU,hd,h0,dC,Int.toNat_natCast,hr,Option.map_some,cM,c8,iC,iB,iL,iP,↓iN,dB,pB,zV,vR,xC,hZ,g9,kG,kF,jW,jV,iQ,iK,aZE,aZD,aZG,g7,h1,h2,h3,↓wA,↓wC,wB,cQ,cP,reduceEqDiff,reduceAdd,reduceSub,reduceIte,reduceCtorEq,Nat.reduceBEq,reduceLT])|(refine cO (hHas) rfl rfl ?_)|(refine cR (hHas) rfl rfl ?_)|(with_reducible refine cV ?_ ?_; focus (simp only [eA]; omega))|(with_reducible refine cW ?_ ?_; focus omega)|(with_reducible refine cW ?_ ?_; focus (simp; done))|((first|apply cJ|apply cK|apply cI)<;>intro h<;>try simp only [h]))
     all_goals first
      |(refine ⟨i + 1,?_,by omega,by omega⟩
        rw [hsn]
        simp only [if_true]
        exact (cX _ rfl ⟨⟨rfl,rfl⟩,⟨rfl,rfl⟩,⟨rfl,rfl⟩,⟨rfl,rfl⟩,trivial⟩))
      |(exfalso; simp_all; done)
   ·intro _ hd
    repeat' (first|(simp only [hd,cU,List.take_length,c8,iL,iP,cM,↓wA,↓wC,wB,cQ,cP,reduceEqDiff,reduceAdd,reduceSub,reduceIte,reduceCtorEq,Nat.reduceBEq,reduceLT])|((first|apply cJ|apply cK|apply cI)<;>intro h<;>try simp only [h]))
   all_goals simp
def lI (s:List UInt8):Int:=ck (108 :: s)
def v6 (a b:Int):Int:=ck (110 :: (Lib.itoa a ++ 44 :: Lib.itoa b))
def gY:List Int->List Int
 | a :: b :: r=>v6 a b :: gY r
 | l=>l
def iJ (n:Int):Prop:=0<=n/\n < 999979
theorem m5 {n:Int} (h:iJ n):eA .i64 n:=by
 obtain ⟨h1,h2⟩:=h
 simp only [eA]; omega
theorem aIH (s:List UInt8):iJ (lI s):=aDc _
theorem aPn (a b:Int):iJ (v6 a b):=aDc _
theorem x6:∀ v:List Int,(∀ n∈v,iJ n)->∀ n∈gY v,iJ n
 | [],h=>h
 | [a],h=>h
 | a :: b :: r,h=>by
  intro n hn
  rcases List.mem_cons.1 hn with rfl|hn
  ·exact aPn a b
  ·exact x6 r (fun m hm=>h m (List.mem_cons_of_mem _ (List.mem_cons_of_mem _ hm))) n hn
theorem pA:∀ v:List Int,(gY v).length=(v.length + 1) / 2
 | []=>by simp [gY]
 | [a]=>by simp [gY]
 | a :: b :: r=>by
  have:=pA r
  simp only [gY,List.length_cons]
  omega
theorem zF:∀ (xs ys:List Int),xs.length % 2=0->gY (xs ++ ys)=gY xs ++ gY ys
 | [],ys,_=>rfl
 | [a],ys,h=>by simp at h
 | a :: b :: r,ys,h=>by
  have:=zF r ys (by simp only [List.length_cons] at h; omega)
  simp only [List.cons_append,gY,this]
theorem aKr {v:List Int} {i:Nat} {a b:Int} (he:i % 2=0) (ha:v[i]?=some a) (hb:v[i + 1]?=some b):gY (v.take (i + 2))=gY (v.take i) ++ [v6 a b]:=by
 have hi:=c6 ha
 rw [fY hb,fY ha,List.append_assoc,zF _ _ (by rw [List.length_take,Nat.min_eq_left (by omega)]; exact he)]
 rfl
theorem aKP {v:List Int} {i:Nat} {a:Int} (he:i % 2=0) (ha:v[i]?=some a) (hb:v.length<=i + 1):gY (v.take (i + 2))=gY (v.take i) ++ [a]:=by
 have hi:=c6 ha
 have e:v.take (i + 2)=v.take (i + 1):=by rw [List.take_of_length_le (by omega),List.take_of_length_le (by omega)]
 rw [e,fY ha,zF _ _ (by rw [List.length_take,Nat.min_eq_left (by omega)]; exact he)]
 rfl
theorem aAz (s:List UInt8) (hl:s.length<=4000):Fn prog 249 [.str s] (fun rs=>rs=[.int .i64 (ck s),.bool true]):=by
 have h:=l6 s (by rw [eP]; omega)
 have hd:decide ((s.length:Int) > 4000)=false:=decide_eq_false (by omega)
 have hd':decide ((4000:Int) < (s.length:Int))=false:=decide_eq_false (by omega)
 refine c7 aUQ [] ?_
 dsimp only [aUQ,cY,dD]
 repeat' (first|(simp only [hd,hd',↓wA,↓wC,wB,cQ,cP,reduceEqDiff,reduceAdd,reduceSub,reduceIte,reduceCtorEq,Nat.reduceBEq,reduceLT])|(refine cO (h) rfl rfl ?_)|(refine cR (h) rfl rfl ?_)|((first|apply cJ|apply cK|apply cI)<;>intro h<;>try simp only [h]))
theorem aGz (s:List UInt8) (hl:s.length<=100):Fn prog 221 [.str s] (fun rs=>rs=[.int .i64 (lI s)]):=by
 have h:=aAz (108 :: s) (by simp only [List.length_cons]; omega)
 refine c7 aTz [] ?_
 dsimp only [aTz,cY,dD]
 repeat' (first|(simp only [cM,↓wA,↓wC,wB,cQ,cP,reduceEqDiff,reduceAdd,reduceSub,reduceIte,reduceCtorEq,Nat.reduceBEq,reduceLT])|(refine cO (h) rfl rfl ?_)|(refine cR (h) rfl rfl ?_)|(with_reducible refine cW ?_ ?_; focus ((try simp only [List.length_append,List.length_cons,List.length_nil]); omega))|((first|apply cJ|apply cK|apply cI)<;>intro h<;>try simp only [h]))
 all_goals rfl
theorem aJZ (s:List UInt8) (hl:s.length<=100):Fn prog 224 [.str s] (fun rs=>rs=[.int .i64 (lI s)]):=by
 have h:=aAo (108 :: s) (by rw [eP]; simp only [List.length_cons]; omega)
 refine c7 aUy [] ?_
 dsimp only [aUy,cY,dD]
 repeat' (first|(simp only [cM,↓wA,↓wC,wB,cQ,cP,reduceEqDiff,reduceAdd,reduceSub,reduceIte,reduceCtorEq,Nat.reduceBEq,reduceLT])|(refine cO (h) rfl rfl ?_)|(refine cR (h) rfl rfl ?_)|(with_reducible refine cW ?_ ?_; focus ((try simp only [List.length_append,List.length_cons,List.length_nil]); omega))|((first|apply cJ|apply cK|apply cI)<;>intro h<;>try simp only [h]))
 all_goals rfl
theorem aIf (a b:Int) (ha:iJ a) (hb:iJ b):Fn prog 223 [.int .i64 a,.int .i64 b] (fun rs=>rs=[.int .i64 (v6 a b)]):=by
 have l1:=eJ a (m5 ha)
 have l2:=eJ b (m5 hb)
 have d1:=eZ a (m5 ha)
 have d2:=eZ b (m5 hb)
 have h:=aAz (110 :: (Lib.itoa a ++ 44 :: Lib.itoa b)) (by simp only [List.length_cons,List.length_append]; omega)
 refine c7 aUP [] ?_
 dsimp only [aUP,cY,dD]
 repeat' (first|(simp only [cM,List.append_assoc,List.cons_append,List.nil_append,↓wA,↓wC,wB,cQ,cP,reduceEqDiff,reduceAdd,reduceSub,reduceIte,reduceCtorEq,Nat.reduceBEq,reduceLT])|(refine cO (d1) rfl rfl ?_)|(refine cR (d1) rfl rfl ?_)|(refine cO (d2) rfl rfl ?_)|(refine cR (d2) rfl rfl ?_)|(refine cO (h) rfl rfl ?_)|(refine cR (h) rfl rfl ?_)|(with_reducible refine cW ?_ ?_; focus ((try simp only [List.length_append,List.length_cons,List.length_nil]); omega))|((first|apply cJ|apply cK|apply cI)<;>intro h<;>try simp only [h]))
 all_goals rfl
theorem aJu (a b:Int) (ha:iJ a) (hb:iJ b):Fn prog 225 [.int .i64 a,.int .i64 b] (fun rs=>rs=[.int .i64 (v6 a b)]):=by
 have l1:=eJ a (m5 ha)
 have l2:=eJ b (m5 hb)
 have d1:=eW a ha.1 (m5 ha)
 have d2:=eW b hb.1 (m5 hb)
 have h:=aAo (110 :: (Lib.itoa a ++ 44 :: Lib.itoa b)) (by rw [eP]; simp only [List.length_cons,List.length_append]; omega)
 refine c7 aTD [] ?_
 dsimp only [aTD,cY,dD]
 repeat' (first|(simp only [cM,List.append_assoc,List.cons_append,List.nil_append,↓wA,↓wC,wB,cQ,cP,reduceEqDiff,reduceAdd,reduceSub,reduceIte,reduceCtorEq,Nat.reduceBEq,reduceLT])|(refine cO (d1) rfl rfl ?_)|(refine cR (d1) rfl rfl ?_)|(refine cO (d2) rfl rfl ?_)|(refine cR (d2) rfl rfl ?_)|(refine cO (h) rfl rfl ?_)|(refine cR (h) rfl rfl ?_)|(with_reducible refine cW ?_ ?_; focus ((try simp only [List.length_append,List.length_cons,List.length_nil]); omega))|((first|apply cJ|apply cK|apply cI)<;>intro h<;>try simp only [h]))
 all_goals rfl
theorem aGX (L:List (List UInt8)) (hl:L.length<=8) (hx:∀ s∈L,s.length<=100):Fn prog 197 [.sl false 1 (dl D.str L)] (fun rs=>rs=[.sl true 1 (dl iD (L.map lI))]):=by
 refine c7 aTH [] ?_
 dsimp only [aTH,cY,dD]
 repeat' (first|(simp only [cM,cU,↓wA,↓wC,wB,cQ,cP,reduceEqDiff,reduceAdd,reduceSub,reduceIte,reduceCtorEq,Nat.reduceBEq,reduceLT])|((first|apply cJ|apply cK|apply cI)<;>intro h<;>try simp only [h]))
 refine dU L.length (fun i:Nat=>⟨[(0,.d (.sl false 1 (dl D.str L))),(3,.own 0),(4,.d (.int .i64 i))],[.val (.sl true 1 (dl iD ((L.take i).map lI)))]⟩) (fun _=>True) (cX _ rfl ⟨⟨rfl,rfl⟩,⟨rfl,rfl⟩,⟨rfl,rfl⟩,trivial⟩) trivial ?_ ?_
 ·intro i hlt _ hd h0
  obtain ⟨s,hr⟩:=dS hlt
  have h:=aJZ s (hx s (List.mem_of_getElem? hr))
  have hsn:(L.take (i + 1)).map lI=(L.take i).map lI ++ [lI s]:=by rw [fY hr,List.map_append]; rfl
  have hvl:((L.take i).map lI).length<=8:=by simp; omega
  repeat' (first|(simp only [cU,hd,h0,dC,Int.toNat_natCast,hr,Option.map_some,cM,g7,↓wA,↓wC,wB,cQ,cP,reduceEqDiff,reduceAdd,reduceSub,reduceIte,reduceCtorEq,Nat.reduceBEq,reduceLT])|(refine cO (h) rfl rfl ?_)|(refine cR (h) rfl rfl ?_)|(with_reducible refine cV ?_ ?_; focus (simp only [eA]; omega))|(with_reducible refine cW ?_ ?_; focus omega)|(with_reducible refine cW ?_ ?_; focus (simp; done))|((first|apply cJ|apply cK|apply cI)<;>intro h<;>try simp only [h]))
  refine ⟨i + 1,?_,by omega,by omega⟩
  rw [hsn]
  exact (cX _ rfl ⟨⟨rfl,rfl⟩,⟨rfl,rfl⟩,⟨rfl,rfl⟩,trivial⟩)
 ·intro _ hd
  repeat' (first|(simp only [hd,cU,List.take_length,↓wA,↓wC,wB,cQ,cP,reduceEqDiff,reduceAdd,reduceSub,reduceIte,reduceCtorEq,Nat.reduceBEq,reduceLT])|((first|apply cJ|apply cK|apply cI)<;>intro h<;>try simp only [h]))
theorem aIZ (L:List (List UInt8)) (hl:L.length<=8) (hx:∀ s∈L,s.length<=100):Fn prog 193 [.sl false 1 (dl D.str L)] (fun rs=>rs=[.sl true 1 (dl iD (L.map lI))]):=by
 refine c7 aTQ [] ?_
 dsimp only [aTQ,cY,dD]
 repeat' (first|(simp only [cM,cU,↓wA,↓wC,wB,cQ,cP,reduceEqDiff,reduceAdd,reduceSub,reduceIte,reduceCtorEq,Nat.reduceBEq,reduceLT])|((first|apply cJ|apply cK|apply cI)<;>intro h<;>try simp only [h]))
 refine sI [(3,1)] L.length (fun i:Nat=>⟨[(3,.own 0),(6,.d (.sl false 1 (dl D.str L))),(7,.d (.int .i64 L.length)),(8,.d (.int .i64 i))],[.val (.sl true 1 (dl iD ((L.take i).map lI)))]⟩) (fun _=>True) ⟨rfl,trivial⟩ ?_ trivial ?_ ?_
 ·exact (cX _ rfl ⟨⟨rfl,rfl⟩,⟨rfl,rfl⟩,⟨rfl,rfl⟩,⟨rfl,rfl⟩,trivial⟩)
 ·intro i hlt _ hd h0
  obtain ⟨s,hr⟩:=dS hlt
  have h:=aGz s (hx s (List.mem_of_getElem? hr))
  have hsn:(L.take (i + 1)).map lI=(L.take i).map lI ++ [lI s]:=by rw [fY hr,List.map_append]; rfl
  have hvl:((L.take i).map lI).length<=8:=by simp; omega
  repeat' (first|(simp only [cU,hd,h0,dC,Int.toNat_natCast,hr,Option.map_some,cM,g7,↓wA,↓wC,wB,cQ,cP,reduceEqDiff,reduceAdd,reduceSub,reduceIte,reduceCtorEq,Nat.reduceBEq,reduceLT])|(refine cO (h) rfl rfl ?_)|(refine cR (h) rfl rfl ?_)|(with_reducible refine cV ?_ ?_; focus (simp only [eA]; omega))|(with_reducible refine cW ?_ ?_; focus omega)|(with_reducible refine cW ?_ ?_; focus (simp; done))|((first|apply cJ|apply cK|apply cI)<;>intro h<;>try simp only [h]))
  refine ⟨i + 1,?_,by omega,by omega⟩
  rw [hsn]
  exact (cX _ rfl ⟨⟨rfl,rfl⟩,⟨rfl,rfl⟩,⟨rfl,rfl⟩,⟨rfl,rfl⟩,trivial⟩)
 ·intro _ hd
  repeat' (first|(simp only [hd,cU,List.take_length,↓wA,↓wC,wB,cQ,cP,reduceEqDiff,reduceAdd,reduceSub,reduceIte,reduceCtorEq,Nat.reduceBEq,reduceLT])|((first|apply cJ|apply cK|apply cI)<;>intro h<;>try simp only [h]))
theorem aHG (v:List Int) (hl:v.length<=1000) (hv:∀ n∈v,iJ n):Fn prog 198 [.sl false 1 (dl iD v)] (fun rs=>rs=[.sl true 1 (dl iD (gY v))]):=by
 refine c7 aTV [] ?_
 dsimp only [aTV,cY,dD]
 repeat' (first|(simp only [cM,cU,↓wA,↓wC,wB,cQ,cP,reduceEqDiff,reduceAdd,reduceSub,reduceIte,reduceCtorEq,Nat.reduceBEq,reduceLT])|((first|apply cJ|apply cK|apply cI)<;>intro h<;>try simp only [h]))
 refine eM (fun i:Nat=>⟨[(0,.d (.sl false 1 (dl iD v))),(3,.own 0),(4,.d (.int .i64 i))],[.val (.sl true 1 (dl iD (gY (v.take i))))]⟩) (fun i=>i % 2=0/\i<=v.length + 1) (fun i=>v.length + 2 - i) 0 (cX _ rfl ⟨⟨rfl,rfl⟩,⟨rfl,rfl⟩,⟨rfl,rfl⟩,trivial⟩) ⟨rfl,by omega⟩ ?_
 rintro i ⟨i1,i2⟩
 by_cases hlt:i < v.length
 ·obtain ⟨a,ha⟩:=dS hlt
  have hA:=hv a (List.mem_of_getElem? ha)
  have hd:decide ((i:Int) < (v.length:Int))=true:=decide_eq_true (by omega)
  have h0:(0:Int)<=(i:Int):=by omega
  have hrl:=pA (v.take i)
  rw [List.length_take,Nat.min_eq_left (by omega)] at hrl
  by_cases h2:i + 1 < v.length
  ·obtain ⟨b,hb⟩:=dS h2
   have hB:=hv b (List.mem_of_getElem? hb)
   have hP:=aJu a b hA hB
   have hsn:=aKr i1 ha hb
   have hd2:decide ((i:Int) + 1 < (v.length:Int))=true:=decide_eq_true (by omega)
   have h02:(0:Int)<=(i:Int) + 1:=by omega
   have hcast:((i:Int) + 1).toNat=i + 1:=by omega
   repeat' (first|(simp only [cU,hd,h0,hd2,h02,hcast,dC,Int.toNat_natCast,ha,hb,Option.map_some,cM,eV,iD,g7,↓wA,↓wC,wB,cQ,cP,reduceEqDiff,reduceAdd,reduceSub,reduceIte,reduceCtorEq,Nat.reduceBEq,reduceLT])|(refine cO (hP) rfl rfl ?_)|(refine cR (hP) rfl rfl ?_)|(refine dN ?_)|(with_reducible refine cV ?_ ?_; focus (simp only [eA]; omega))|(with_reducible refine cW ?_ ?_; focus omega)|(with_reducible refine cW ?_ ?_; focus (simp; done))|((first|apply cJ|apply cK|apply cI)<;>intro h<;>try simp only [h]))
   all_goals
    refine ⟨i + 2,?_,⟨by omega,by omega⟩,by omega⟩
    rw [hsn]
    exact (cX _ rfl ⟨⟨rfl,rfl⟩,⟨rfl,rfl⟩,⟨rfl,rfl⟩,trivial⟩)
  ·have hsn:=aKP i1 ha (by omega)
   have hd2:decide ((i:Int) + 1 < (v.length:Int))=false:=decide_eq_false (by omega)
   repeat' (first|(simp only [cU,hd,h0,hd2,dC,Int.toNat_natCast,ha,Option.map_some,cM,eV,iD,g7,↓wA,↓wC,wB,cQ,cP,reduceEqDiff,reduceAdd,reduceSub,reduceIte,reduceCtorEq,Nat.reduceBEq,reduceLT])|(refine dN ?_)|(with_reducible refine cV ?_ ?_; focus (simp only [eA]; omega))|(with_reducible refine cW ?_ ?_; focus omega)|(with_reducible refine cW ?_ ?_; focus (simp; done))|((first|apply cJ|apply cK|apply cI)<;>intro h<;>try simp only [h]))
   all_goals
    refine ⟨i + 2,?_,⟨by omega,by omega⟩,by omega⟩
    rw [hsn]
    exact (cX _ rfl ⟨⟨rfl,rfl⟩,⟨rfl,rfl⟩,⟨rfl,rfl⟩,trivial⟩)
 ·have hd:decide ((i:Int) < (v.length:Int))=false:=decide_eq_false (by omega)
  have e:v.take i=v:=List.take_of_length_le (by omega)
  rw [e]
  repeat' (first|(simp only [cU,hd,↓wA,↓wC,wB,cQ,cP,reduceEqDiff,reduceAdd,reduceSub,reduceIte,reduceCtorEq,Nat.reduceBEq,reduceLT])|((first|apply cJ|apply cK|apply cI)<;>intro h<;>try simp only [h]))
def oM (v:List Int):Int:=if h:v.length<=1 then v.headD 0 else oM (gY v)
termination_by v.length
decreasing_by rw [pA]; omega
theorem aFj {v:List Int} {a:Int} (h:v.length<=1) (ha:v[0]?=some a):oM v=a:=by
 rw [oM,dif_pos h]
 cases v with
 | nil=>simp at ha
 | cons b r=>simpa using ha
theorem zP {v:List Int} (h:¬ v.length<=1):oM (gY v)=oM v:=by
 conv=>rhs; rw [oM,dif_neg h]
theorem aOo:Int.toNat 0=0:=rfl
theorem aXr:((0:Int)<=0)=True:=by simp
theorem aFn (L:List (List UInt8)):∀ n∈L.map lI,iJ n:=by
 intro n hn
 obtain ⟨s,_,rfl⟩:=List.mem_map.1 hn
 exact aIH s
theorem aKn (L:List (List UInt8)) (hl:L.length<=8) (h1:1<=L.length) (hx:∀ s∈L,s.length<=100):Fn prog 161 [.sl false 1 (dl D.str L)] (fun rs=>rs=[.int .i64 (oM (L.map lI))]):=by
 have hL:=aGX L hl hx
 refine c7 aUl [] ?_
 dsimp only [aUl,cY,dD]
 repeat' (first|(simp only [cM,↓wA,↓wC,wB,cQ,cP,reduceEqDiff,reduceAdd,reduceSub,reduceIte,reduceCtorEq,Nat.reduceBEq,reduceLT])|(refine cO (hL) rfl rfl ?_)|(refine cR (hL) rfl rfl ?_)|((first|apply cJ|apply cK|apply cI)<;>intro h<;>try simp only [h]))
 refine eM (fun x:List Int=>⟨[(3,.d (.sl false 1 (dl iD x)))],[]⟩) (fun x=>oM x=oM (L.map lI)/\(∀ n∈x,iJ n)/\1<=x.length/\x.length<=8) (fun x=>x.length) (L.map lI) ((aJw 0 rfl).trans (cX _ rfl ⟨⟨by simp only [lA,kD,D.unown,dW,↓wA,↓wC,wB,cQ,cP,reduceEqDiff,reduceAdd,reduceSub,reduceIte,reduceCtorEq,Nat.reduceBEq,reduceLT],rfl⟩,trivial⟩)) ⟨rfl,aFn L,by simpa using h1,by simpa using hl⟩ ?_
 rintro x ⟨x1,x2,x3,x4⟩
 have hR:=aHG x (by omega) x2
 have hrl:=pA x
 have hoA:([D.sl true 1 (dl iD (gY x))].all D.allOwn)=true:=by simp [D.allOwn,o9 xJ]
 by_cases hgt:1 < x.length
 ·have hd:decide ((1:Int) < (x.length:Int))=true:=decide_eq_true (by omega)
  repeat' (first|(simp only [cU,hd,cM,↓wA,↓wC,wB,cQ,cP,reduceEqDiff,reduceAdd,reduceSub,reduceIte,reduceCtorEq,Nat.reduceBEq,reduceLT])|(refine cO hR rfl rfl ?_)|((first|apply cJ|apply cK|apply cI)<;>intro h<;>try simp only [h]))
  refine ⟨gY x,((aJw 0 rfl).trans (cX _ rfl ⟨⟨by simp only [lA,kD,D.unown,dW,↓wA,↓wC,wB,cQ,cP,reduceEqDiff,reduceAdd,reduceSub,reduceIte,reduceCtorEq,Nat.reduceBEq,reduceLT],rfl⟩,trivial⟩)),⟨(zP (by omega)).trans x1,x6 x x2,by omega,by omega⟩,by omega⟩
 ·have hd:decide ((1:Int) < (x.length:Int))=false:=decide_eq_false (by omega)
  obtain ⟨a,ha⟩:=dS (show 0 < x.length by omega)
  have hro:=aFj (by omega) ha
  repeat' (first|(simp only [cU,hd,cM,dC,aOo,aXr,dB,ha,Option.map_some,eV,iD,↓wA,↓wC,wB,cQ,cP,reduceEqDiff,reduceAdd,reduceSub,reduceIte,reduceCtorEq,Nat.reduceBEq,reduceLT])|((first|apply cJ|apply cK|apply cI)<;>intro h<;>try simp only [h]))
  all_goals rw [<- x1,hro]
def xN:Prop:=∀ v:List Int,v.length<=1000->(∀ n∈v,iJ n)->Fn prog 194 [.sl false 1 (dl iD v)] (fun rs=>rs=[.sl true 1 (dl iD (gY v))])
theorem aLS (hRd:xN) (L:List (List UInt8)) (hl:L.length<=1048576):Fn prog 154 [.sl false 1 (dl D.str L)] (fun rs=>rs=if e9 L=true then [.int .i64 (oM (L.map lI)),.bool true] else [.int .i64 0,.bool false]):=by
 have hV:=aB9 L hl
 cases hv:e9 L with
 | false =>
  rw [hv] at hV
  refine c7 aLB [] ?_
  dsimp only [aLB,cY,dD]
  repeat' (first|(simp only [cM,↓wA,↓wC,wB,cQ,cP,reduceEqDiff,reduceAdd,reduceSub,reduceIte,reduceCtorEq,Nat.reduceBEq,reduceLT])|(refine cO (hV) rfl rfl ?_)|(refine cR (hV) rfl rfl ?_)|((first|apply cJ|apply cK|apply cI)<;>intro h<;>try simp only [h]))
  all_goals simp
 | true =>
  rw [hv] at hV
  simp only [e9,Bool.and_eq_true,dE,decide_eq_true_eq,List.all_eq_true] at hv
  obtain ⟨⟨h1,h8⟩,hx⟩:=hv
  have hx':∀ s∈L,s.length<=100:=fun s hs=>by
   have:=hx s hs
   simp only [lV,Bool.and_eq_true] at this
   have:=zX s.length this.1
   omega
  have hL:=aIZ L (by omega) hx'
  refine c7 aLB [] ?_
  dsimp only [aLB,cY,dD]
  repeat' (first|(simp only [cM,↓wA,↓wC,wB,cQ,cP,reduceEqDiff,reduceAdd,reduceSub,reduceIte,reduceCtorEq,Nat.reduceBEq,reduceLT])|(refine cO (hV) rfl rfl ?_)|(refine cR (hV) rfl rfl ?_)|(refine cO (hL) rfl rfl ?_)|(refine cR (hL) rfl rfl ?_)|((first|apply cJ|apply cK|apply cI)<;>intro h<;>try simp only [h]))
  refine eM (fun x:List Int=>⟨[(4,.d (.sl false 1 (dl iD x)))],[]⟩) (fun x=>oM x=oM (L.map lI)/\(∀ n∈x,iJ n)/\1<=x.length/\x.length<=8) (fun x=>x.length) (L.map lI) ((aJw 0 rfl).trans (cX _ rfl ⟨⟨by simp only [lA,kD,D.unown,dW,↓wA,↓wC,wB,cQ,cP,reduceEqDiff,reduceAdd,reduceSub,reduceIte,reduceCtorEq,Nat.reduceBEq,reduceLT],rfl⟩,trivial⟩)) ⟨rfl,aFn L,by simp; omega,by simp; omega⟩ ?_
  rintro x ⟨x1,x2,x3,x4⟩
  have hR:=hRd x (by omega) x2
  have hrl:=pA x
  have hoA:([D.sl true 1 (dl iD (gY x))].all D.allOwn)=true:=by simp [D.allOwn,o9 xJ]
  by_cases hgt:1 < x.length
  ·have hd:decide ((1:Int) < (x.length:Int))=true:=decide_eq_true (by omega)
   repeat' (first|(simp only [cU,hd,cM,↓wA,↓wC,wB,cQ,cP,reduceEqDiff,reduceAdd,reduceSub,reduceIte,reduceCtorEq,Nat.reduceBEq,reduceLT])|(refine cO hR rfl rfl ?_)|((first|apply cJ|apply cK|apply cI)<;>intro h<;>try simp only [h]))
   refine ⟨gY x,((aJw 0 rfl).trans (cX _ rfl ⟨⟨by simp only [lA,kD,D.unown,dW,↓wA,↓wC,wB,cQ,cP,reduceEqDiff,reduceAdd,reduceSub,reduceIte,reduceCtorEq,Nat.reduceBEq,reduceLT],rfl⟩,trivial⟩)),⟨(zP (by omega)).trans x1,x6 x x2,by omega,by omega⟩,by omega⟩
  ·have hd:decide ((1:Int) < (x.length:Int))=false:=decide_eq_false (by omega)
   obtain ⟨a,ha⟩:=dS (show 0 < x.length by omega)
   have hro:=aFj (by omega) ha
   repeat' (first|(simp only [cU,hd,cM,dC,aOo,aXr,dB,ha,Option.map_some,eV,iD,↓wA,↓wC,wB,cQ,cP,reduceEqDiff,reduceAdd,reduceSub,reduceIte,reduceCtorEq,Nat.reduceBEq,reduceLT])|((first|apply cJ|apply cK|apply cI)<;>intro h<;>try simp only [h]))
   all_goals rw [<- x1,hro]
def aF5 (o:Off):List D:=if dV o=true/\e9 o.led=true then [.int .i64 (oM (o.led.map lI)),.bool true] else [.int .i64 0,.bool false]
theorem aIa (hRd:xN) (o:Off) (ho:o.ok0):Fn prog 109 [o.s] (fun rs=>rs=aF5 o):=by
 have hV:=kP o ho
 have hR:=aLS hRd o.led ho.2.1
 unfold aF5
 cases hv:dV o with
 | false =>
  rw [hv] at hV
  refine c7 aFT [] ?_
  dsimp only [aFT,cY,dD]
  repeat' (first|(simp only [aZw,aZx,↓dK,cM,↓wA,↓wC,wB,cQ,cP,reduceEqDiff,reduceAdd,reduceSub,reduceIte,reduceCtorEq,Nat.reduceBEq,reduceLT])|(refine cO hV (by simp [dH,dQ,aZv]) rfl ?_)|((first|apply cJ|apply cK|apply cI)<;>intro h<;>try simp only [h]))
  all_goals simp
 | true =>
  rw [hv] at hV
  cases hl:e9 o.led with
  | true =>
   rw [hl,if_pos rfl] at hR
   refine c7 aFT [] ?_
   dsimp only [aFT,cY,dD]
   repeat' (first|(simp only [aZw,aZx,↓dK,cM,iS,iR,cZ,↓wA,↓wC,wB,cQ,cP,reduceEqDiff,reduceAdd,reduceSub,reduceIte,reduceCtorEq,Nat.reduceBEq,reduceLT])|(refine cO (hR) rfl rfl ?_)|(refine cR (hR) rfl rfl ?_)|(refine cO hV (by simp [dH,dQ,aZv]) rfl ?_)|((first|apply cJ|apply cK|apply cI)<;>intro h<;>try simp only [h]))
   all_goals simp
  | false =>
   rw [hl,if_neg (by simp)] at hR
   refine c7 aFT [] ?_
   dsimp only [aFT,cY,dD]
   repeat' (first|(simp only [aZw,aZx,↓dK,cM,iS,iR,cZ,↓wA,↓wC,wB,cQ,cP,reduceEqDiff,reduceAdd,reduceSub,reduceIte,reduceCtorEq,Nat.reduceBEq,reduceLT])|(refine cO (hR) rfl rfl ?_)|(refine cR (hR) rfl rfl ?_)|(refine cO hV (by simp [dH,dQ,aZv]) rfl ?_)|((first|apply cJ|apply cK|apply cI)<;>intro h<;>try simp only [h]))
   all_goals simp
theorem aMv {o:Off} (h:dV o=true):decide ((0:Int) < (o.led.length:Int))=e9 o.led:=by
 simp only [dV,oQ,yW,Bool.and_eq_true,Bool.or_eq_true,Bool.not_eq_true'] at h
 rcases h.1.2 with h|h
 ·rw [h]
  have:¬ (0:Int) < (o.led.length:Int):=of_decide_eq_false h
  have e:o.led.length=0:=by omega
  symm
  simp [e9,dE,e]
 ·rw [h]
  simp only [e9,Bool.and_eq_true,dE,decide_eq_true_eq] at h
  exact decide_eq_true (by omega)
theorem aIY (o:Off) (ho:o.ok0):Fn prog 122 [o.s] (fun rs=>rs=aF5 o):=by
 have hV:=gT o ho
 unfold aF5
 cases hv:dV o with
 | false =>
  rw [hv] at hV
  refine c7 aF8 [] ?_
  dsimp only [aF8,cY,dD]
  repeat' (first|(simp only [aZw,aZx,↓dK,cM,↓wA,↓wC,wB,cQ,cP,reduceEqDiff,reduceAdd,reduceSub,reduceIte,reduceCtorEq,Nat.reduceBEq,reduceLT])|(refine cO hV (by simp [dH,dQ,aZv]) rfl ?_)|((first|apply cJ|apply cK|apply cI)<;>intro h<;>try simp only [h]))
  all_goals simp
 | true =>
  rw [hv] at hV
  have hq:=aMv hv
  cases hl:e9 o.led with
  | true =>
   rw [hl] at hq
   have hq':=of_decide_eq_true hq
   have h0:decide ((o.led.length:Int)=0)=false:=decide_eq_false (by omega)
   have hx:∀ s∈o.led,s.length<=100:=fun s hs=>by
    simp only [e9,Bool.and_eq_true,dE,decide_eq_true_eq,List.all_eq_true] at hl
    have:=hl.2 s hs
    simp only [lV,Bool.and_eq_true] at this
    have:=zX s.length this.1
    omega
   have hR:=aKn o.led (by simp only [e9,Bool.and_eq_true,dE,decide_eq_true_eq] at hl; omega) (by omega) hx
   refine c7 aF8 [] ?_
   dsimp only [aF8,cY,dD]
   repeat' (first|(simp only [h0,cU,aZw,aZx,↓dK,cM,iS,iR,cZ,↓wA,↓wC,wB,cQ,cP,reduceEqDiff,reduceAdd,reduceSub,reduceIte,reduceCtorEq,Nat.reduceBEq,reduceLT])|(refine cO (hR) rfl rfl ?_)|(refine cR (hR) rfl rfl ?_)|(refine cO hV (by simp [dH,dQ,aZv]) rfl ?_)|((first|apply cJ|apply cK|apply cI)<;>intro h<;>try simp only [h]))
   all_goals simp
  | false =>
   rw [hl] at hq
   have hq':=of_decide_eq_false hq
   have h0:decide ((o.led.length:Int)=0)=true:=decide_eq_true (by omega)
   refine c7 aF8 [] ?_
   dsimp only [aF8,cY,dD]
   repeat' (first|(simp only [h0,cU,aZw,aZx,↓dK,cM,iS,iR,cZ,↓wA,↓wC,wB,cQ,cP,reduceEqDiff,reduceAdd,reduceSub,reduceIte,reduceCtorEq,Nat.reduceBEq,reduceLT])|(refine cO hV (by simp [dH,dQ,aZv]) rfl ?_)|((first|apply cJ|apply cK|apply cI)<;>intro h<;>try simp only [h]))
   all_goals simp
end Go.Pe.Tryz
namespace Go.Proofs.ChkTryz
open Go.Proofs Go.RowKit Go.Shelf
attribute [local go_sem] Oper.semAt_some
def u0 (n₀ Bs Bn:Nat) (W W':World):Prop:=Below n₀ W W'/\W'.heap[Bs]?=W.heap[Bs]?/\W'.heap[Bn]?=W.heap[Bn]?
theorem u0.refl (n₀ Bs Bn:Nat) (W:World):u0 n₀ Bs Bn W W:=⟨Below.refl _ _,rfl,rfl⟩
theorem u0.trans {n₀ Bs Bn:Nat} {A B C:World} (h:u0 n₀ Bs Bn A B) (k:u0 n₀ Bs Bn B C):u0 n₀ Bs Bn A C:=⟨h.1.trans k.1,k.2.1.trans h.2.1,k.2.2.trans h.2.2⟩
theorem u0.drew {n₀ Bs Bn:Nat} {A B:World} (h:u0 n₀ Bs Bn A B):u0 n₀ Bs Bn A B.drew:=⟨h.1.drew,h.2.1,h.2.2⟩
abbrev Ix (len:Nat):={ k:Nat // 2 * k < len }
def enc (b off len:Nat) (k:Nat):Array Value:=#[.slice (some ⟨b,off + 2 * k,none⟩) (min 2 (len - 2 * k)) (min 2 (len - 2 * k))]
theorem aIt {β:Type} {B:Nat} {J:β->World->Prop} (h:AbidesFrom B J) {s:β} {W:World} (hs:J s W):J s W.drew :=
 h s W W.drew none hs ⟨rfl,rfl,rfl,Nat.le_refl _,fun _ _ _=>rfl⟩ (fun _ e=>by cases e)
set_option maxRecDepth 100000 in
set_option maxHeartbeats 4000000 in
theorem aL7 (F:Fence) (n:Nat) (h7:F.fn 250) (hro:F.round=none) (hn:1<=n) (l Bs Bn n₀ b off len cap:Nat) (hcap:len<=cap) (hreach:len<=1048576) (hb:b < n₀) (J Jx:List (Ix len)->World->Prop) (hJ:∀ s W,J s W->J s W.drew)
  (hY:∀ pre x W,J pre W->pre.length < (len + 1) / 2->YieldAt F (n - 1) Tryz.prog l (enc b off len x.1) W fun e W' =>
   (e=.returned (.bool true)/\J (pre ++ [x]) W'/\u0 n₀ Bs Bn W W')\/(e=.returned (.bool false)/\Jx (pre ++ [x]) W'))
  (W:World) (hBs:W.cell? ⟨Bs,0,none⟩=some (.slice (some ⟨b,off,none⟩) len cap)) (hBn:W.cell? ⟨Bn,0,none⟩=some (.int .i64 2)) (h0:J [] W) :
  CallsIn F n Tryz.prog 250 #[.func (.yield l) #[] #[],.pointer (some ⟨Bs,0,none⟩),.pointer (some ⟨Bn,0,none⟩)] W fun e W'=>(∃ v,e=.returned v) /\
   ((∃ ys:List (Ix len),ys.map (·.1)=List.range ((len + 1) / 2)/\J ys W')\/(∃ pre,Jx pre W')):=by
 refine callsIn_of_wp Tryz.func250 rfl h7 ?_ hro
 have hnt:Tryz.f250.ntmps=31:=rfl
 simp only [hnt,List.size_toArray,List.length_cons,List.length_nil,Nat.reduceAdd,Nat.reduceSub,Array.replicate_succ,Array.replicate_zero,List.push_toArray,List.append_toArray,List.nil_append,List.cons_append]
 gi_wp2
 gi_loopw [4] (fun i wr=>∃ k:Nat,2 * k<=len + 1/\i=.int .i64 (2 * k:Nat)/\(∃ ys:List (Ix len),ys.map (·.1)=List.range k/\J ys wr)/\u0 n₀ Bs Bn W wr)
  (fun i _=>len + 2 - (intOf i).toNat)
 case atStart=>exact ⟨0,by omega,rfl,⟨[],rfl,h0⟩,u0.refl _ _ _ _⟩
 case round =>
  obtain ⟨k,hk,rfl,⟨ys,hys,hJs⟩,hnx,hs1,hs2⟩:=hrel
  have hBs':wr.cell? ⟨Bs,0,none⟩=some (.slice (some ⟨b,off,none⟩) len cap):=by unfold World.cell? at hBs ⊢; rw [hs1]; exact hBs
  have hBn':wr.cell? ⟨Bn,0,none⟩=some (.int .i64 2):=by unfold World.cell? at hBn ⊢; rw [hs2]; exact hBn
  by_cases hlt:2 * k < len
  ·obtain ⟨fn,tmps,assign,body,hy,hR⟩:=hY ys ⟨k,hlt⟩ wr.drew (hJ _ _ hJs) (by have:=congrArg List.length hys; simp at this; omega)
   have hBs3:∀ W3,u0 n₀ Bs Bn wr.drew W3->W3.cell? ⟨Bs,0,none⟩=some (.slice (some ⟨b,off,none⟩) len cap):=fun W3 h=>by
    unfold World.cell? at hBs' ⊢; rw [h.2.1]; exact hBs'
   have hBn3:∀ W3,u0 n₀ Bs Bn wr.drew W3->W3.cell? ⟨Bn,0,none⟩=some (.int .i64 2):=fun W3 h=>by
    unfold World.cell? at hBn' ⊢; rw [h.2.2]; exact hBn'
   have hKd:u0 n₀ Bs Bn W wr.drew:=(u0.drew ⟨hnx,hs1,hs2⟩)
   gi_wp2
   gi_region
   all_goals gi_wp2
   all_goals
    first
     |(have e : (#[Value.slice (some { block := b, off := off + 2 * k }) ((2 * ↑k + (2 : Int)).toNat - 2 * k) ((2 * ↑k + (2 : Int)).toNat - 2 * k)] : Array Value) = enc b off len k := by
        unfold enc; rw [show (2 * ↑k + (2:Int)).toNat - 2 * k=min 2 (len - 2 * k) by omega]
       rw [e,hy])
     |(have e : (#[Value.slice (some { block := b, off := off + 2 * k }) ((2 * ↑k + min (2 : Int) ↑(len - 2 * k)).toNat - 2 * k) ((2 * ↑k + min (2 : Int) ↑(len - 2 * k)).toNat - 2 * k)] : Array Value) = enc b off len k := by
        unfold enc; rw [show (2 * ↑k + min (2:Int) ↑(len - 2 * k)).toNat - 2 * k=min 2 (len - 2 * k) by omega]
       rw [e,hy])
     |(have e : (#[Value.slice (some { block := b, off := off + 2 * k }) ((2 * ↑k + ↑(len - 2 * k) : Int).toNat - 2 * k) ((2 * ↑k + ↑(len - 2 * k) : Int).toNat - 2 * k)] : Array Value) = enc b off len k := by
        unfold enc; rw [show (2 * ↑k + ↑(len - 2 * k):Int).toNat - 2 * k=min 2 (len - 2 * k) by omega]
       rw [e,hy])
    gi_wp2
    refine hR.mono ?_
    rintro e W3 (⟨rfl,hJ3,hk3⟩|⟨rfl,hJx3⟩)
    ·have hb3:=hBn3 W3 hk3
     gi_wp2
     go_roundw
     case rel=>exact ⟨k + 1,by omega,by simp; omega,⟨ys ++ [⟨k,hlt⟩],by simp [hys,List.range_succ],hJ3⟩,hKd.trans hk3⟩
     case measure=>simp [intOf]; omega
    ·gi_wp2
     refine bodyPost_ret (results_none rfl _ _ _) rfl ?_
     exact ⟨⟨_,rfl⟩,.inr ⟨_,hJx3⟩⟩
  ·gi_wp2
   go_end0
   exact ⟨⟨_,rfl⟩,.inl ⟨ys,by rw [hys]; congr 1; omega,hJs⟩⟩
set_option maxRecDepth 100000 in
set_option maxHeartbeats 4000000 in
theorem aEP (F:Fence) (n:Nat) (h7:F.fn 250) (hro:F.round=none) (l Bs Bn:Nat) (a:Option Addr) (cap:Nat) (J:World->Prop) (W:World) (hBs:W.cell? ⟨Bs,0,none⟩=some (.slice a 0 cap)) (h0:J W) :
  CallsIn F n Tryz.prog 250 #[.func (.yield l) #[] #[],.pointer (some ⟨Bs,0,none⟩),.pointer (some ⟨Bn,0,none⟩)] W fun e W'=>(∃ v,e=.returned v)/\J W':=by
 refine callsIn_of_wp Tryz.func250 rfl h7 ?_ hro
 have hnt:Tryz.f250.ntmps=31:=rfl
 simp only [hnt,List.size_toArray,List.length_cons,List.length_nil,Nat.reduceAdd,Nat.reduceSub,Array.replicate_succ,Array.replicate_zero,List.push_toArray,List.append_toArray,List.nil_append,List.cons_append]
 gi_wp2
 gi_loopw [4] (fun i wr=>i=.int .i64 0/\wr=W) (fun _ _=>0)
 case atStart=>exact ⟨rfl,rfl⟩
 case round =>
  obtain ⟨rfl,rfl⟩:=hrel
  gi_wp2
  go_end0
  exact ⟨⟨_,rfl⟩,h0⟩
set_option maxRecDepth 100000 in
set_option maxHeartbeats 4000000 in
theorem aN9 (F:Fence) (n:Nat) (h5:F.fn 222) (hro:F.round=none) (a:Option Addr) (len cap:Nat) (w:World) :
  CallsIn F n Tryz.prog 222 #[.slice a len cap,.int .i64 2] w fun e w'=>e=.returned (.func (.func 250) #[] #[.pointer (some ⟨w.heap.size,0,none⟩),.pointer (some ⟨w.heap.size + 1,0,none⟩)]) /\
   w'=(w.alloc (.cells #[.slice a len cap] 76)).alloc (.cells #[.int .i64 2] 3):=by
 refine callsIn_of_wp Tryz.func222 rfl h5 ?_ hro
 have hnt:Tryz.f222.ntmps=9:=rfl
 simp only [hnt,List.size_toArray,List.length_cons,List.length_nil,Nat.reduceAdd,Nat.reduceSub,Array.replicate_succ,Array.replicate_zero,List.push_toArray,List.append_toArray,List.nil_append,List.cons_append]
 gi_wp2
 go_ret
 exact ⟨by simp,rfl⟩
theorem aHC (F:Fence) (n:Nat) (h7:F.fn 250) (hro:F.round=none) (hn:1<=n) (Bs Bn n₀ b off len cap:Nat) (a:Option Addr) (hreach:len<=1048576) (w:World)
  (ha:len=0\/(a=some ⟨b,off,none⟩/\len<=cap/\b < n₀)) (hBs:Bs < w.heap.size) (hBn:Bn < w.heap.size) (hcs:w.cell? ⟨Bs,0,none⟩=some (.slice a len cap)) (hcn:w.cell? ⟨Bn,0,none⟩=some (.int .i64 2)) :
  SeqStopsK F n Tryz.prog 250 #[.pointer (some ⟨Bs,0,none⟩),.pointer (some ⟨Bn,0,none⟩)] (fun x:Ix len=>enc b off len x.1) (u0 n₀ Bs Bn) (fun ys=>ys.map (·.1)=List.range ((len + 1) / 2)) (fun _=>True) ((len + 1) / 2) w:=fun l J Jx W hW hJ _ hY h0=>by
 have hcs':=(hW.cell (p:=⟨Bs,0,none⟩) hBs).trans hcs
 have hcn':=(hW.cell (p:=⟨Bn,0,none⟩) hBn).trans hcn
 rcases ha with rfl|⟨rfl,hcap,hb⟩
 ·exact (aEP F n h7 hro l Bs Bn a cap (J []) W hcs' h0).mono fun e W' ⟨he,hj⟩=>⟨he,.inl ⟨[],rfl,hj⟩⟩
 ·exact (aL7 F n h7 hro hn l Bs Bn n₀ b off len cap hcap hreach hb J Jx (fun s W h=>aIt hJ h) hY W hcs' hcn' h0).mono fun e W' ⟨he,hj⟩=>⟨he,hj.imp id fun ⟨pre,h⟩=>⟨pre,trivial,h⟩⟩
end Go.Proofs.ChkTryz
namespace Go.Pe.Tryz
open Nat (reduceEqDiff reduceAdd reduceSub reduceLT)
open Go Go.Proofs.Tryz
theorem aNz (out pr:List Int) (g:Int) (hg:(∃ a b,pr=[a,b]/\iJ a/\iJ b/\g=v6 a b)\/pr=[g]) (ho:out.length<=1000000) :
  ∃ b,(Go.Proofs.Tryz.f194).body.bind nP=some b/\∀ (c:Ctx),c.G=prog->c.nn=(8,(Go.Proofs.Tryz.f194).ntmps)->∀ C a w,Rel c ⟨[(3,.ptr 0 0 []),(4,.d (.sl false 1 (dl iD pr)))],[.box (.sl true 1 (dl iD out))]⟩ C a w->∀ r n,b.wpIn (Fence.wide.inRound r) n prog.P (fun e a' w'=>∃ s' C',(e=.normal/\look s'.e 3=.ptr 0 0 []/\∃ x,s'.o=.box (.sl true 1 (dl iD (out ++ [g]))) :: x)/\Rel c s' C' a' w') a w:=by
 rcases hg with ⟨a,b,rfl,ha,hb,rfl⟩|rfl
 ·have hP:=aIf a b ha hb
  have i0:([a,b]:List Int)[(0:Int).toNat]?=some a:=rfl
  have i1:([a,b]:List Int)[(1:Int).toNat]?=some b:=rfl
  have d2:decide (((2:Nat):Int)=2)=true:=rfl
  refine aLr (ps:=[[0,1,0]]) aUS aT5 (by rfl) (Q:=fun e s'=>e=.normal/\look s'.e 3=.ptr 0 0 []/\∃ x,s'.o=.box (.sl true 1 (dl iD (out ++ [v6 a b]))) :: x) ?_
  unfold aNQ
  simp only [cY,dD]
  repeat' (first|(simp only [cU,d2,↓wA,↓wC,wB,cQ,cP,reduceEqDiff,reduceAdd,reduceSub,reduceIte,reduceCtorEq,Nat.reduceBEq,reduceLT])|((first|apply cJ|apply cK|apply cI)<;>intro h<;>try simp only [h]))
  refine fG _ (f8 0 none [] (es:=1) (xs:=dl iD out) rfl rfl) fun v=>?_
  simp only [eS,↓wA,↓wC,wB,cQ,cP,reduceEqDiff,reduceAdd,reduceSub,reduceIte,reduceCtorEq,Nat.reduceBEq,reduceLT]
  repeat' (first|(simp only [cU,dC,cM,i0,i1,Option.map_some,eV,iD,↓wA,↓wC,wB,cQ,cP,reduceEqDiff,reduceAdd,reduceSub,reduceIte,reduceCtorEq,Nat.reduceBEq,reduceLT])|(refine cO (hP) rfl rfl ?_)|(refine cR (hP) rfl rfl ?_)|(refine dN ?_)|(refine cR hP rfl rfl ?_)|(with_reducible refine cW ?_ ?_; focus omega)|((first|apply cJ|apply cK|apply cI)<;>intro h<;>try simp only [h]))
  refine cW (by simp) (cW (by omega) ?_)
  rw [show (dl iD out).app (.cons (.int .i64 (v6 a b)) .nil)=dl iD (out ++ [v6 a b]) from iT (f:=iD) out _]
  exact ⟨_,rfl⟩
 ·have i0:([g]:List Int)[(0:Int).toNat]?=some g:=rfl
  have d2:decide (((1:Nat):Int)=2)=false:=rfl
  refine aLr (ps:=[[0,1,1]]) aUS aT5 (by rfl) (Q:=fun e s'=>e=.normal/\look s'.e 3=.ptr 0 0 []/\∃ x,s'.o=.box (.sl true 1 (dl iD (out ++ [g]))) :: x) ?_
  unfold aNQ
  simp only [cY,dD]
  repeat' (first|(simp only [cU,d2,↓wA,↓wC,wB,cQ,cP,reduceEqDiff,reduceAdd,reduceSub,reduceIte,reduceCtorEq,Nat.reduceBEq,reduceLT])|((first|apply cJ|apply cK|apply cI)<;>intro h<;>try simp only [h]))
  refine fG _ (f8 0 none [] (es:=1) (xs:=dl iD out) rfl rfl) fun v=>?_
  simp only [eS,↓wA,↓wC,wB,cQ,cP,reduceEqDiff,reduceAdd,reduceSub,reduceIte,reduceCtorEq,Nat.reduceBEq,reduceLT]
  repeat' (first|(simp only [cU,dC,cM,i0,Option.map_some,eV,iD,↓wA,↓wC,wB,cQ,cP,reduceEqDiff,reduceAdd,reduceSub,reduceIte,reduceCtorEq,Nat.reduceBEq,reduceLT])|(refine dN ?_)|(with_reducible refine cW ?_ ?_; focus omega)|((first|apply cJ|apply cK|apply cI)<;>intro h<;>try simp only [h]))
  refine cW (by simp) (cW (by omega) ?_)
  rw [show (dl iD out).app (.cons (.int .i64 g) .nil)=dl iD (out ++ [g]) from iT (f:=iD) out _]
  exact ⟨_,rfl⟩
end Go.Pe.Tryz
