/- Valid offices, walked; Is it an office? walked, and the law; Consoles: an office and a log; sizes, copies, equality; are they valid? walked, and the law; Texts of cases (strings.Join, decimals, caseText, l25Text), walked; The text of a console, walked, and the law of FormatConsole; A case of an office by its number, its text, walked; the law of CaseText; Marks on lists of numbers, walked; Marks as text: on lists of texts, walked; Marks on offices, walked; The cases of an office of which something is so; those that are due, blocked, held; walked; The cases of an office with a hold: the reference, walked; the law of HeldCases; Roots of ledgers: hashes, rounds (the reference's), walked; Roots of ledgers: the loops, walked (the program's round is taken as told: roundOK); The root of an office's ledger, walked (the program's round as told: roundOK); The library's iterator over the pieces of a slice of numbers, two at a time: its contract; The program's round: the body of its loop, walked; what it is behind the loop -/
import Derived.Test.YtjmobminbckhjaaGreatDoorW1
import Derived.Test.YtjmobminbckhjaaGreatDoorPeD
import Derived.Test.YtjmobminbckhjaaGreatDoorMc1
import Derived.Test.YtjmobminbckhjaaGreatDoorMc2
import Derived.Test.YtjmobminbckhjaaGreatDoorMc3
import Derived.Test.YtjmobminbckhjaaGreatDoorMc4
import Derived.Test.YtjmobminbckhjaaGreatDoorMc5
import Derived.Test.YtjmobminbckhjaaGreatDoorMc6
import Derived.Test.YtjmobminbckhjaaGreatDoorMc7
import Derived.Test.YtjmobminbckhjaaGreatDoorMc8
import Derived.RangeFuncNested
import Derived.RangeFuncBound
import Derived.RangeFuncCalls
import Derived.RangeFuncBox
import Derived.RangeFuncLeaves
import Derived.Shelf.Abstract
import Derived.Shelf.RegionOpen
import Derived.RegionTactic
import Derived.RegionIn
import Derived.WalkKit
import Derived.OwnWalkIn
import Derived.TacticsInMore
import Derived.LoopNIn
import Derived.LoopIn
import Derived.Test.YtjmobminbckhjaaGreatDoorProg
set_option maxRecDepth 100000
set_option maxHeartbeats 4000000
set_option linter.all false
namespace Go.Pe.Tryz
open Nat (reduceEqDiff reduceAdd reduceSub reduceLT)
open Go.Proofs.Tryz
theorem wR (n:Nat):c6 (n:Int) 1 40=true->0 < n/\n<=40:=by
 intro h
 simp only [c6,Bool.and_eq_true,decide_eq_true_eq] at h
 omega
theorem aCx (s:List UInt8):Fn prog 134 [.str s] (fun rs=>rs=[.bool (jQ s)]):=by
 unfold jQ
 cases hw:c6 (s.length:Int) 1 40 with
 | false =>
  have hW:=eT (s.length:Int) 1 40
  rw [hw] at hW
  refine cW aIN [] ?_
  dsimp only [aIN,aSu,rF,cS,cE,cR,c8]
  try simp only [wQ]
  repeat' (first|(simp only [↓wA,↓wC,wB,reduceEqDiff,reduceIte,reduceCtorEq])|(refine cJ (hW) rfl rfl ?_)|(refine cL (hW) rfl rfl ?_)|((first|apply cH|apply cI|apply cG)<;>intro h<;>try simp only [h]))
  all_goals rfl
 | true =>
  have hW:=eT (s.length:Int) 1 40
  rw [hw] at hW
  have hl:=wR _ hw
  have hT:=aPJ s hl.1 (by omega)
  have he:decide (oI gX (oS gX s)=[])=s.all eB:=by
   have h1:=aLq gX s
   have h2:(s.all fun b=>gX.contains b)=s.all eB:=by
    congr 1
    funext b
    exact aR6 b
   rw [h2] at h1
   cases hb:s.all eB with
   | true=>exact decide_eq_true (h1.2 hb)
   | false=>exact decide_eq_false (fun h=>by rw [h1.1 h] at hb; cases hb)
  simp only [gX] at hT he
  refine cW aIN [] ?_
  dsimp only [aIN,aSu,rF,cS,cE,cR,c8]
  try simp only [wQ]
  repeat' (first|(simp only [↓wA,↓wC,wB,reduceEqDiff,reduceIte,reduceCtorEq])|(refine cJ (hW) rfl rfl ?_)|(refine cL (hW) rfl rfl ?_)|(refine cJ (hT) rfl rfl ?_)|(refine cL (hT) rfl rfl ?_)|((first|apply cH|apply cI|apply cG)<;>intro h<;>try simp only [h]))
  all_goals exact congrArg (fun b=>[D.bool b]) he
theorem aEv (b:UInt8):Fn prog 163 [.int .u8 (b.toNat:Int)] (fun rs=>rs=[.bool (c6 (b.toNat:Int) 97 122)]):=by
 refine cW aRF [] ?_
 dsimp only [aRF,aVQ,rF,cS,cE,cR,c8]
 try simp only [wQ]
 repeat' (first|(simp only [↓wA,↓wC,wB,reduceEqDiff,reduceIte,reduceCtorEq])|((first|apply cH|apply cI|apply cG)<;>intro h<;>try simp only [h]))
 all_goals first|(simp_all [c6]; done)|(simp_all [c6]; intros; omega)
theorem aGV (s:List UInt8) (hl:s.length<=1048576):Fn prog 123 [.str s] (fun rs=>rs=[.bool (jQ s)]):=by
 have hW:=iA (s.length:Int) 1 40
 unfold jQ
 refine cW aRc [] ?_
 dsimp only [aRc,aVE,rF,cS,cE,cR,c8]
 try simp only [wQ]
 repeat' (first|(simp only [cK,↓wA,↓wC,wB,reduceEqDiff,reduceIte,reduceCtorEq])|((first|apply cH|apply cI|apply cG)<;>intro h<;>try simp only [h]))
 refine dV s.length (fun i:Nat=>⟨[(0,.d (.str s)),(3,.d (.int .i64 i))],[]⟩) (fun i=>∀ j b,j < i->s[j]?=some b->eB b=true) (cV _ rfl ⟨⟨rfl,rfl⟩,⟨rfl,rfl⟩,trivial⟩) (fun j r hj=>by omega) ?_ ?_
 ·intro i hlt hinv hd h0
  obtain ⟨b,hb⟩:=dW hlt
  have hL:=aEv b
  have hbad:eB b=false->(c6 (s.length:Int) 1 40 && s.all eB)=false:=by
   intro h
   have:s.all eB=false:=List.all_eq_false.2 ⟨b,List.mem_of_getElem? hb,by rw [h]; simp⟩
   rw [this,Bool.and_false]
  have hgood:eB b=true->∀ j c,j < i + 1->s[j]?=some c->eB c=true:=by
   intro h j c hj hc
   by_cases e:j=i
   ·subst e; rw [hb] at hc; injection hc with hc; rw [<- hc]; exact h
   ·exact hinv j c (by omega) hc
  cases hlt1:c6 (b.toNat:Int) 97 122 with
  | true =>
   rw [hlt1] at hL
   have hg:=hgood (by unfold eB; rw [hlt1]; rfl)
   repeat' (first|(simp only [cK,hd,h0,hb,Int.toNat_natCast,↓wA,↓wC,wB,reduceEqDiff,reduceIte,reduceCtorEq])|(refine cJ (hL) rfl rfl ?_)|(refine cL (hL) rfl rfl ?_)|(with_reducible refine cM ?_ ?_; focus (simp only [dX]; omega))|((first|apply cH|apply cI|apply cG)<;>intro h<;>try simp only [h]))
   all_goals exact e7 (cV _ rfl ⟨⟨rfl,rfl⟩,⟨rfl,rfl⟩,trivial⟩) hlt hg
  | false =>
   rw [hlt1] at hL
   repeat' (first|(simp only [cK,hd,h0,hb,Int.toNat_natCast,↓wA,↓wC,wB,reduceEqDiff,reduceIte,reduceCtorEq])|(refine cJ (hL) rfl rfl ?_)|(refine cL (hL) rfl rfl ?_)|(with_reducible refine cM ?_ ?_; focus (simp only [dX]; omega))|((first|apply cH|apply cI|apply cG)<;>intro h<;>try simp only [h]))
   all_goals first
    |(refine e7 (cV _ rfl ⟨⟨rfl,rfl⟩,⟨rfl,rfl⟩,trivial⟩) hlt (hgood ?_); focus (clear hL hW hgood hbad; simp_all [eB,c6]; done))
    |(refine (congrArg (fun x=>[D.bool x]) (hbad ?_)).symm; focus (clear hL hW hgood hbad; simp_all [eB,c6]; done))
    |(refine (congrArg (fun x=>[D.bool x]) (hbad ?_)).symm; focus (clear hL hW hgood hbad hinv; simp_all [eB,c6]; intros; omega))
    |(refine (congrArg (fun x=>[D.bool x]) (hbad ?_)).symm; focus (clear hL hW hgood hbad hinv; simp_all [eB,c6]; omega))
    | trace_state
 ·intro hinv hd
  have:s.all eB=true:=List.all_eq_true.2 fun b hb=>by
   obtain ⟨j,hj⟩:=List.getElem?_of_mem hb
   exact hinv j b (cQ hj) hj
  rw [this,Bool.and_true]
  repeat' (first|(simp only [hd,↓wA,↓wC,wB,reduceEqDiff,reduceIte,reduceCtorEq])|(refine cJ (hW) rfl rfl ?_)|(refine cL (hW) rfl rfl ?_)|((first|apply cH|apply cI|apply cG)<;>intro h<;>try simp only [h]))
def eG (L:List (List UInt8)):Bool:=c6 L.length 1 8 && L.all jQ
theorem aGK (s:List UInt8):Fn prog 133 [.str s] (fun rs=>rs=[.bool (!jQ s)]):=by
 refine cW aQv [] ?_
 dsimp only [aQv,aTE,rF,cS,cE,cR,c8]
 try simp only [wQ]
 repeat' (first|(simp only [↓wA,↓wC,wB,reduceEqDiff,reduceIte,reduceCtorEq])|(refine cJ (aCx s) rfl rfl ?_)|(refine cL (aCx s) rfl rfl ?_)|((first|apply cH|apply cI|apply cG)<;>intro h<;>try simp only [h]))
theorem aC8 (p:(List UInt8)->Bool) (g:Nat) (c:D) (xs:List (List UInt8)) (hc:c.caps=true) (he:fX prog.P g=true) (hlen:xs.length<=1048576) (hp:∀ x∈xs,Fn prog g (D.str x :: c.list) (fun rs=>rs=[.bool (p x)])) :
  Fn prog 172 [.sl false 1 (dl D.str xs),.clo g c] (fun rs=>rs=[.int .i64 (jX p xs)]):=by
 refine cW aRI [] ?_
 dsimp only [aRI,aVt,rF,cS,cE,cR,c8]
 try simp only [wQ]
 simp only [cP,↓wA,↓wC,wB,reduceEqDiff,reduceAdd,reduceIte,reduceCtorEq]
 refine dV xs.length (fun i:Nat=>⟨[(0,.d (.sl false 1 (dl D.str xs))),(1,.d (.clo g c)),(7,.d (.int .i64 xs.length)),(8,.d (.int .i64 i))],[]⟩) (fun i=>∀ j r,j < i->xs[j]?=some r->p r=false) (cV _ rfl ⟨⟨rfl,rfl⟩,⟨rfl,rfl⟩,⟨rfl,rfl⟩,⟨rfl,rfl⟩,trivial⟩) (fun j r hj=>by omega) ?_ ?_
 ·intro i hlt hinv hd h0
  obtain ⟨r,hr⟩:=dW hlt
  have hcl:=hp r (List.mem_of_getElem? hr)
  simp only [hd,h0,dC,Int.toNat_natCast,hr,Option.map_some,cK,↓aMl,↓wA,↓wC,wB,reduceEqDiff,reduceIte,reduceCtorEq]
  refine uV (ds:=[D.str r]) hcl he hc (by simp [dA,dK]) rfl ?_
  cases hpr:p r with
  | true =>
   simp only [↓wA,↓wC,wB,reduceEqDiff,reduceIte,reduceCtorEq]
   rw [qH hr hpr hinv]
  | false =>
   simp only [↓wA,↓wC,wB,reduceEqDiff,reduceIte,reduceCtorEq]
   refine cM (by simp only [dX]; omega) ?_
   refine e7 (cV _ rfl ⟨⟨rfl,rfl⟩,⟨rfl,rfl⟩,⟨rfl,rfl⟩,⟨rfl,rfl⟩,trivial⟩) hlt fun j s hj hs=>?_
   by_cases e:j=i
   ·subst e; rw [hr] at hs; injection hs with hs; rw [<- hs]; exact hpr
   ·exact hinv j s (by omega) hs
 ·intro hinv hd
  simp only [hd,↓wA,↓wC,wB,reduceEqDiff,reduceIte,reduceCtorEq]
  rw [oW fun j r hj=>hinv j r (cQ hj) hj]
theorem z8 (p:(List UInt8)->Bool) (g:Nat) (c:D) (xs:List (List UInt8)) (hc:c.caps=true) (he:fX prog.P g=true) (hlen:xs.length<=1048576) (hp:∀ x∈xs,Fn prog g (D.str x :: c.list) (fun rs=>rs=[.bool (p x)])) :
  Fn prog 132 [.sl false 1 (dl D.str xs),.clo g c] (fun rs=>rs=[.bool (xs.any p)]):=by
 refine cW aRn [] ?_
 dsimp only [aRn,aTI,rF,cS,cE,cR,c8]
 try simp only [wQ]
 simp only [↓wA,↓wC,wB,reduceEqDiff,reduceAdd,reduceIte,reduceCtorEq]
 refine cJ (aC8 p g c xs hc he hlen hp) rfl rfl ?_
 simp only [rA,↓wA,wB,reduceIte]
theorem aAE (L:List (List UInt8)) (hl:L.length<=1048576):Fn prog 99 [.sl false 1 (dl D.str L)] (fun rs=>rs=[.bool (eG L)]):=by
 have hW:=eT (L.length:Int) 1 8
 have hC:=z8 (fun s=>!jQ s) 133 .nil L rfl aU4 hl (fun s _=>aGK s)
 rw [aIZ] at hC
 unfold eG
 cases hw:c6 (L.length:Int) 1 8 with
 | false =>
  rw [hw] at hW
  refine cW aQd [] ?_
  dsimp only [aQd,m99,rF,cS,cE,cR,c8]
  try simp only [wQ]
  repeat' (first|(simp only [cP,↓wA,↓wC,wB,reduceEqDiff,reduceIte,reduceCtorEq])|(refine cJ (hW) rfl rfl ?_)|(refine cL (hW) rfl rfl ?_)|((first|apply cH|apply cI|apply cG)<;>intro h<;>try simp only [h]))
  all_goals rfl
 | true =>
  rw [hw] at hW
  refine cW aQd [] ?_
  dsimp only [aQd,m99,rF,cS,cE,cR,c8]
  try simp only [wQ]
  repeat' (first|(simp only [cP,↓wA,↓wC,wB,reduceEqDiff,reduceIte,reduceCtorEq])|(refine cJ (hW) rfl rfl ?_)|(refine cL (hW) rfl rfl ?_)|(refine cJ (hC) rfl rfl ?_)|(refine cL (hC) rfl rfl ?_)|((first|apply cH|apply cI|apply cG)<;>intro h<;>try simp only [h]))
  all_goals simp
theorem aHB (L:List (List UInt8)) (hl:L.length<=1048576) (hx:∀ s∈L,s.length<=1048576):Fn prog 86 [.sl false 1 (dl D.str L)] (fun rs=>rs=[.bool (eG L)]):=by
 have hW:=iA (L.length:Int) 1 8
 unfold eG
 refine cW aVB [] ?_
 dsimp only [aVB,m86,rF,cS,cE,cR,c8]
 try simp only [wQ]
 repeat' (first|(simp only [cK,↓wA,↓wC,wB,reduceEqDiff,reduceIte,reduceCtorEq])|((first|apply cH|apply cI|apply cG)<;>intro h<;>try simp only [h]))
 refine dV L.length (fun i:Nat=>⟨[(0,.d (.sl false 1 (dl D.str L))),(3,.d (.int .i64 i))],[]⟩) (fun i=>∀ j b,j < i->L[j]?=some b->jQ b=true) (cV _ rfl ⟨⟨rfl,rfl⟩,⟨rfl,rfl⟩,trivial⟩) (fun j r hj=>by omega) ?_ ?_
 ·intro i hlt hinv hd h0
  obtain ⟨b,hb⟩:=dW hlt
  have hE:=aGV b (hx b (List.mem_of_getElem? hb))
  cases hbo:jQ b with
  | false =>
   rw [hbo] at hE
   have:L.all jQ=false:=List.all_eq_false.2 ⟨b,List.mem_of_getElem? hb,by rw [hbo]; simp⟩
   rw [this,Bool.and_false]
   repeat' (first|(simp only [cK,cP,dC,hd,h0,hb,Int.toNat_natCast,Option.map_some,↓wA,↓wC,wB,reduceEqDiff,reduceIte,reduceCtorEq])|(refine cJ (hE) rfl rfl ?_)|(refine cL (hE) rfl rfl ?_)|(with_reducible refine cM ?_ ?_; focus (simp only [dX]; omega))|((first|apply cH|apply cI|apply cG)<;>intro h<;>try simp only [h]))
  | true =>
   rw [hbo] at hE
   repeat' (first|(simp only [cK,cP,dC,hd,h0,hb,Int.toNat_natCast,Option.map_some,↓wA,↓wC,wB,reduceEqDiff,reduceIte,reduceCtorEq])|(refine cJ (hE) rfl rfl ?_)|(refine cL (hE) rfl rfl ?_)|(with_reducible refine cM ?_ ?_; focus (simp only [dX]; omega))|((first|apply cH|apply cI|apply cG)<;>intro h<;>try simp only [h]))
   refine e7 (cV _ rfl ⟨⟨rfl,rfl⟩,⟨rfl,rfl⟩,trivial⟩) hlt fun j c hj hc=>?_
   by_cases e:j=i
   ·subst e; rw [hb] at hc; injection hc with hc; rw [<- hc]; exact hbo
   ·exact hinv j c (by omega) hc
 ·intro hinv hd
  have:L.all jQ=true:=List.all_eq_true.2 fun b hb=>by
   obtain ⟨j,hj⟩:=List.getElem?_of_mem hb
   exact hinv j b (cQ hj) hj
  rw [this,Bool.and_true]
  repeat' (first|(simp only [cP,hd,↓wA,↓wC,wB,reduceEqDiff,reduceIte,reduceCtorEq])|(refine cJ (hW) rfl rfl ?_)|(refine cL (hW) rfl rfl ?_)|((first|apply cH|apply cI|apply cG)<;>intro h<;>try simp only [h]))
def gB (x:Cs):Bool:=c6 x.i 1 999 && c6 x.a 1 3 && c6 x.d 0 20000 && decide ((x.h.length:Int)<=5) && (x.h.all (fun n=>c6 n 1 9) && mZ x.h)
theorem aC5 (n:Int):Fn prog 135 [.int .i64 n] (fun rs=>rs=[.bool (c6 n 1 999)]):=by
 refine cW aRH [] ?_
 dsimp only [aRH,aT4,rF,cS,cE,cR,c8]
 try simp only [wQ]
 repeat' (first|(simp only [↓wA,↓wC,wB,reduceEqDiff,reduceIte,reduceCtorEq])|(refine cJ (eT _ _ _) rfl rfl ?_)|(refine cL (eT _ _ _) rfl rfl ?_)|((first|apply cH|apply cI|apply cG)<;>intro h<;>try simp only [h]))
theorem aMx (n:Int):Fn prog 136 [.int .i64 n] (fun rs=>rs=[.bool (c6 n 1 3)]):=by
 refine cW aRa [] ?_
 dsimp only [aRa,aUy,rF,cS,cE,cR,c8]
 try simp only [wQ]
 repeat' (first|(simp only [↓wA,↓wC,wB,reduceEqDiff,reduceIte,reduceCtorEq])|(refine cJ (eT _ _ _) rfl rfl ?_)|(refine cL (eT _ _ _) rfl rfl ?_)|((first|apply cH|apply cI|apply cG)<;>intro h<;>try simp only [h]))
theorem sV (n:Int):Fn prog 140 [.int .i64 n] (fun rs=>rs=[.bool (c6 n 1 9)]):=by
 refine cW aIO [] ?_
 dsimp only [aIO,aSN,rF,cS,cE,cR,c8]
 try simp only [wQ]
 repeat' (first|(simp only [↓wA,↓wC,wB,reduceEqDiff,reduceIte,reduceCtorEq])|(refine cJ (eT _ _ _) rfl rfl ?_)|(refine cL (eT _ _ _) rfl rfl ?_)|((first|apply cH|apply cI|apply cG)<;>intro h<;>try simp only [h]))
theorem aHw (n:Int):Fn prog 139 [.int .i64 n] (fun rs=>rs=[.bool (!c6 n 1 9)]):=by
 refine cW aRo [] ?_
 dsimp only [aRo,aUN,rF,cS,cE,cR,c8]
 try simp only [wQ]
 repeat' (first|(simp only [↓wA,↓wC,wB,reduceEqDiff,reduceIte,reduceCtorEq])|(refine cJ (sV n) rfl rfl ?_)|(refine cL (sV n) rfl rfl ?_)|((first|apply cH|apply cI|apply cG)<;>intro h<;>try simp only [h]))
theorem aK4 (x:Cs) (hx:x.ok0):Fn prog 100 [x.s] (fun rs=>rs=[.bool (gB x)]):=by
 have hR:=aC5 x.i
 have hA:=aMx x.a
 have hD:=aCo x.d
 have hS:=aEt x.h hx
 have hC:=aAh (fun n=>!c6 n 1 9) 139 .nil x.h rfl aUJ hx (fun n _=>aHw n)
 rw [aIZ] at hC
 unfold gB
 generalize c6 x.i 1 999=b1 at *
 generalize c6 x.a 1 3=b2 at *
 generalize c6 x.d 0 20000=b3 at *
 generalize (x.h.all fun n=>c6 n 1 9)=b4 at *
 generalize mZ x.h=b5 at *
 refine cW aRe [] ?_
 dsimp only [aRe,aUX,rF,cS,cE,cR,c8]
 try simp only [wQ]
 simp only [Cs.s,Cs.p]
 repeat' (first|(simp only [dE,cK,cP,↓wA,↓wC,wB,reduceEqDiff,reduceAdd,reduceIte,reduceCtorEq])|(refine cJ (hR) rfl rfl ?_)|(refine cL (hR) rfl rfl ?_)|(refine cJ (hA) rfl rfl ?_)|(refine cL (hA) rfl rfl ?_)|(refine cJ (hD) rfl rfl ?_)|(refine cL (hD) rfl rfl ?_)|(refine cJ (hS) rfl rfl ?_)|(refine cL (hS) rfl rfl ?_)|(refine cJ (hC) rfl rfl ?_)|(refine cL (hC) rfl rfl ?_)|((first|apply cH|apply cI|apply cG)<;>intro h<;>try simp only [h]))
 all_goals (clear hR hA hD hS hC; simp_all)
theorem aHx (x:Cs) (hx:x.ok0):Fn prog 87 [x.s] (fun rs=>rs=[.bool (gB x)]):=by
 have hR:=iA x.i 1 999
 have hA:=iA x.a 1 3
 have hD:=aB7 x.d
 have hS:=aGR x.h 1 9 hx
 unfold gB
 generalize c6 x.i 1 999=b1 at *
 generalize c6 x.a 1 3=b2 at *
 generalize c6 x.d 0 20000=b3 at *
 generalize ((x.h.all fun n=>c6 n 1 9) && mZ x.h)=b4 at *
 refine cW aT2 [] ?_
 dsimp only [aT2,m87,rF,cS,cE,cR,c8]
 try simp only [wQ]
 simp only [Cs.s,Cs.p]
 repeat' (first|(simp only [dE,cK,cP,↓wA,↓wC,wB,reduceEqDiff,reduceAdd,reduceIte,reduceCtorEq])|(refine cJ (hR) rfl rfl ?_)|(refine cL (hR) rfl rfl ?_)|(refine cJ (hA) rfl rfl ?_)|(refine cL (hA) rfl rfl ?_)|(refine cJ (hD) rfl rfl ?_)|(refine cL (hD) rfl rfl ?_)|(refine cJ (hS) rfl rfl ?_)|(refine cL (hS) rfl rfl ?_)|((first|apply cH|apply cI|apply cG)<;>intro h<;>try simp only [h]))
 all_goals (clear hR hA hD hS; simp_all)
theorem zH {x:Cs} {K:SV->Prop}:dD 0 0 (.d (.ptr x.s)) K=K (.d (.ptr (.int .i64 x.i))):=by simp [Cs.s,Cs.p,dD,D.pre,D.nth]
theorem aW1 {x:Cs} {K:SV->Prop}:dD 1 1 (.d (.ptr x.s)) K=K (.d (.ptr (.int .i64 x.a))):=by simp [Cs.s,Cs.p,dD,D.pre,D.nth,D.size]
theorem aE2 {x:Cs} {K:SV->Prop}:dD 2 2 (.d (.ptr x.s)) K=K (.d (.ptr (.int .i64 x.d))):=by simp [Cs.s,Cs.p,dD,D.pre,D.nth,D.size]
theorem aHD {x:Cs} {K:SV->Prop}:dD 3 3 (.d (.ptr x.s)) K=K (.d (.ptr (.sl false 1 (dl iD x.h)))):=by simp [Cs.s,Cs.p,dD,D.pre,D.nth,D.size]
theorem aBd {x:Cs}:fB [0] x.s=0:=rfl
theorem rW {x:Cs}:fB [1] x.s=1:=rfl
theorem nW {x:Cs}:fB [2] x.s=2:=rfl
theorem uT {x:Cs}:fB [3] x.s=3:=rfl
theorem aA2 {x:Cs}:gG [0] x.s=some (.int .i64 x.i):=rfl
theorem sE {x:Cs}:gG [1] x.s=some (.int .i64 x.a):=rfl
theorem nY {x:Cs}:gG [2] x.s=some (.int .i64 x.d):=rfl
theorem u4 {x:Cs}:gG [3] x.s=some (.sl false 1 (dl iD x.h)):=rfl
theorem aXX (o:Off):o.s.isV=true:=rfl
theorem aX2 (o:Off):o.s.size=5:=rfl
theorem aYe (o:Off):o.o.isV=true:=rfl
theorem aYc (o:Off):o.o.size=5:=rfl
def ltC (xs:List Cs) (i:Nat) (x:Cs):Bool:=match i with
 | 0=>true
 | k + 1=>match xs[k]? with
  | some y=>decide (y.i < x.i)
  | none=>true
def aB6 (xs:List Cs) (i:Nat):Bool:=match xs[i]? with
 | some x=>gB x && ltC xs i x
 | none=>false
theorem aBT {xs:List Cs} {i:Nat} {x:Cs} (hr:xs[i]?=some x):aB6 xs i=(gB x && ltC xs i x):=by
 unfold aB6; rw [hr]
def xV (xs:List Cs):Bool:=(List.range xs.length).all (aB6 xs)
theorem pK {xs:List Cs} {i:Nat} (hi:i < xs.length) (h:aB6 xs i=false):xV xs=false:=by
 refine List.all_eq_false.2 ⟨i,List.mem_range.2 hi,by rw [h]; simp⟩
theorem aAt {xs:List Cs} (h:∀ j,j < xs.length->aB6 xs j=true):xV xs=true :=
 List.all_eq_true.2 fun j hj=>h j (List.mem_range.1 hj)
def aCD (L:List (List UInt8)):Bool:=!decide ((0:Int) < (L.length:Int)) || eG L
def rY (o:Off):Bool:=c6 o.day 0 20000 && decide ((o.cs.length:Int)<=6) && c6 o.kept 0 999 && c6 o.moved 0 999 && aCD o.led
def dN (o:Off):Bool:=rY o && xV o.cs
theorem aQA {xs:List Cs} {i:Nat} {x:Cs} (hlt:i < xs.length):(decide ((0:Int) < (i:Int))=false/\ltC xs i x=true)\/∃ y,decide ((0:Int) < (i:Int))=true/\(0:Int)<=(i:Int) - 1/\xs[((i:Int) - 1).toNat]?=some y/\decide (x.i<=y.i)=!ltC xs i x:=by
 cases i with
 | zero=>exact .inl ⟨rfl,rfl⟩
 | succ k =>
  obtain ⟨y,hy⟩:=dW (show k < xs.length by omega)
  refine .inr ⟨y,decide_eq_true (by omega),by omega,?_,?_⟩
  ·rw [show (((k + 1:Nat):Int) - 1).toNat=k by omega]; exact hy
  ·have:ltC xs (k + 1) x=decide (y.i < x.i):=by simp only [ltC,hy]
   rw [this]
   by_cases h:y.i < x.i
   ·rw [decide_eq_true h,decide_eq_false (by omega)]; rfl
   ·rw [decide_eq_false h,decide_eq_true (by omega)]; rfl
theorem iZ (o:Off) (ho:o.ok0):Fn prog 64 [o.s] (fun rs=>rs=[.bool (dN o)]):=by
 have hDay:=aCo o.day
 have hK:=eT o.kept 0 999
 have hM:=eT o.moved 0 999
 have hL:=aAE o.led ho.2.1
 have hlen:=ho.1.1
 have hh:rY o=(c6 o.day 0 20000 && decide ((o.cs.length:Int)<=6) && c6 o.kept 0 999 && c6 o.moved 0 999 && aCD o.led):=rfl
 unfold aCD at hh
 unfold dN
 have body:rY o=true->Fn prog 64 [o.s] (fun rs=>rs=[.bool (xV o.cs)]):=by
  intro hho
  rw [hh] at hho
  simp only [Bool.and_eq_true] at hho
  obtain ⟨⟨⟨⟨q1,q2⟩,q3⟩,q4⟩,q5⟩:=hho
  rw [q1] at hDay
  rw [q3] at hK
  rw [q4] at hM
  have q2':=of_decide_eq_true q2
  have e2:decide ((6:Int) < (o.cs.length:Int))=false:=decide_eq_false (by omega)
  generalize hlg:eG o.led=b5 at *
  refine cW aPa [] ?_
  dsimp only [aPa,m64,rF,cS,cE,cR,c8]
  try simp only [wQ]
  simp only [Off.s,dQ]
  repeat' (first|(simp only [cY,cZ,cK,cP,e2,↓wA,↓wC,wB,reduceEqDiff,reduceAdd,reduceIte,reduceCtorEq])|(refine cJ (hDay) rfl rfl ?_)|(refine cL (hDay) rfl rfl ?_)|(refine cJ (hK) rfl rfl ?_)|(refine cL (hK) rfl rfl ?_)|(refine cJ (hM) rfl rfl ?_)|(refine cL (hM) rfl rfl ?_)|(refine cJ (hL) rfl rfl ?_)|(refine cL (hL) rfl rfl ?_)|((first|apply cH|apply cI|apply cG)<;>intro h<;>try simp only [h]))
  any_goals (exfalso; clear hDay hK hM hL; simp_all; done)
  all_goals
   refine dV o.cs.length (fun i:Nat=>⟨[(1,.ptr 0 0 []),(40,.d (.sl false 4 (dl Cs.s o.cs))),(41,.d (.int .i64 o.cs.length)),(42,.d (.int .i64 i))],[.box o.s]⟩) (fun i=>∀ j,j < i->aB6 o.cs j=true) (cV _ rfl ⟨⟨rfl,rfl⟩,⟨rfl,rfl⟩,⟨rfl,rfl⟩,⟨rfl,rfl⟩,trivial⟩) (fun j hj=>by omega) ?_ ?_
   ·intro i hlt hinv hd h0
    obtain ⟨x,hr⟩:=dW hlt
    have hst:=aBT hr
    have hok:=aK4 x (ho.1.2 x (List.mem_of_getElem? hr))
    simp only [Off.s,dQ]
    rcases aQA (x:=x) hlt with ⟨hg,hl⟩|⟨y,hg,h1,hy,hq⟩
    ·rw [hl,Bool.and_true] at hst
     repeat' (first|(simp only [dC,hd,h0,hg,Int.toNat_natCast,hr,Option.map_some,↓lQ,aX3,aX6,cK,↓wA,↓wC,wB,reduceEqDiff,reduceAdd,reduceIte])|(refine cJ (hok) rfl rfl ?_)|(refine cL (hok) rfl rfl ?_)|(with_reducible refine cM ?_ ?_; focus (simp only [dX]; omega))|((first|apply cH|apply cI|apply cG)<;>intro h<;>try simp only [h]))
     all_goals first
      |(refine e7 (cV _ rfl ⟨⟨rfl,rfl⟩,⟨rfl,rfl⟩,⟨rfl,rfl⟩,⟨rfl,rfl⟩,trivial⟩) hlt (yG hinv ?_); focus (clear hok; rw [hst]; simp_all; done))
      |(refine (congrArg (fun b=>[D.bool b]) (pK hlt ?_)).symm; focus (clear hok; rw [hst]; simp_all; done))
      | trace_state
    ·repeat' (first|(simp only [cY,dC,hd,h0,hg,h1,hy,hq,Int.toNat_natCast,hr,Option.map_some,↓lQ,↓zH,aBd,aA2,aX3,aX6,cK,↓wA,↓wC,wB,reduceEqDiff,reduceAdd,reduceIte])|(refine cJ (hok) rfl rfl ?_)|(refine cL (hok) rfl rfl ?_)|(with_reducible refine cM ?_ ?_; focus (simp only [dX]; omega))|((first|apply cH|apply cI|apply cG)<;>intro h<;>try simp only [h]))
     all_goals first
      |(refine e7 (cV _ rfl ⟨⟨rfl,rfl⟩,⟨rfl,rfl⟩,⟨rfl,rfl⟩,⟨rfl,rfl⟩,trivial⟩) hlt (yG hinv ?_); focus (clear hok; rw [hst]; simp_all; done))
      |(refine (congrArg (fun b=>[D.bool b]) (pK hlt ?_)).symm; focus (clear hok; rw [hst]; simp_all; done))
      | trace_state
   ·intro hinv hd
    have hall:=aAt hinv
    rw [hall]
    simp only [Off.s,dQ]
    repeat' (first|(simp only [hd,↓wA,↓wC,wB,reduceEqDiff,reduceIte])|((first|apply cH|apply cI|apply cG)<;>intro h<;>try simp only [h]))
 cases hho:rY o with
 | true=>simpa using body hho
 | false =>
  rw [hh] at hho
  rw [Bool.false_and]
  generalize hlg:eG o.led=b5 at *
  generalize c6 o.day 0 20000=b1 at *
  generalize c6 o.kept 0 999=b3 at *
  generalize c6 o.moved 0 999=b4 at *
  refine cW aPa [] ?_
  dsimp only [aPa,m64,rF,cS,cE,cR,c8]
  try simp only [wQ]
  simp only [Off.s,dQ]
  repeat' (first|(simp only [cY,cZ,cK,cP,↓wA,↓wC,wB,reduceEqDiff,reduceAdd,reduceIte,reduceCtorEq])|(refine cJ (hDay) rfl rfl ?_)|(refine cL (hDay) rfl rfl ?_)|(refine cJ (hK) rfl rfl ?_)|(refine cL (hK) rfl rfl ?_)|(refine cJ (hM) rfl rfl ?_)|(refine cL (hM) rfl rfl ?_)|(refine cJ (hL) rfl rfl ?_)|(refine cL (hL) rfl rfl ?_)|((first|apply cH|apply cI|apply cG)<;>intro h<;>try simp only [h]))
  all_goals first
   | rfl
   |(exfalso; clear hDay hK hM hL body; simp_all; done)
   |(exfalso; clear hDay hK hM hL body; simp_all; omega)
theorem fS (o:Off) (ho:o.ok0):Fn prog 53 [o.s] (fun rs=>rs=[.bool (dN o)]):=by
 have hDay:=aB7 o.day
 have hK:=iA o.kept 0 999
 have hM:=iA o.moved 0 999
 have hL:=aHB o.led ho.2.1 ho.2.2
 have hlen:=ho.1.1
 have hh:rY o=(c6 o.day 0 20000 && decide ((o.cs.length:Int)<=6) && c6 o.kept 0 999 && c6 o.moved 0 999 && aCD o.led):=rfl
 unfold aCD at hh
 unfold dN
 have body:rY o=true->Fn prog 53 [o.s] (fun rs=>rs=[.bool (xV o.cs)]):=by
  intro hho
  rw [hh] at hho
  simp only [Bool.and_eq_true] at hho
  obtain ⟨⟨⟨⟨q1,q2⟩,q3⟩,q4⟩,q5⟩:=hho
  rw [q1] at hDay
  rw [q3] at hK
  rw [q4] at hM
  have q2':=of_decide_eq_true q2
  have e2:decide ((6:Int) < (o.cs.length:Int))=false:=decide_eq_false (by omega)
  generalize hlg:eG o.led=b5 at *
  refine cW aPb [] ?_
  dsimp only [aPb,m53,rF,cS,cE,cR,c8]
  try simp only [wQ]
  simp only [Off.s,dQ]
  repeat' (first|(simp only [cY,cZ,cK,cP,e2,↓wA,↓wC,wB,reduceEqDiff,reduceAdd,reduceIte,reduceCtorEq])|(refine cJ (hDay) rfl rfl ?_)|(refine cL (hDay) rfl rfl ?_)|(refine cJ (hK) rfl rfl ?_)|(refine cL (hK) rfl rfl ?_)|(refine cJ (hM) rfl rfl ?_)|(refine cL (hM) rfl rfl ?_)|(refine cJ (hL) rfl rfl ?_)|(refine cL (hL) rfl rfl ?_)|((first|apply cH|apply cI|apply cG)<;>intro h<;>try simp only [h]))
  any_goals (exfalso; clear hDay hK hM hL; simp_all; done)
  all_goals
   refine dV o.cs.length (fun i:Nat=>⟨[(1,.ptr 0 0 []),(3,.d (.int .i64 i))],[.box o.s]⟩) (fun i=>∀ j,j < i->aB6 o.cs j=true) (cV _ rfl ⟨⟨rfl,rfl⟩,⟨rfl,rfl⟩,trivial⟩) (fun j hj=>by omega) ?_ ?_
   ·intro i hlt hinv hd h0
    obtain ⟨x,hr⟩:=dW hlt
    have hst:=aBT hr
    have hok:=aHx x (ho.1.2 x (List.mem_of_getElem? hr))
    simp only [Off.s,dQ]
    rcases aQA (x:=x) hlt with ⟨hg,hl⟩|⟨y,hg,h1,hy,hq⟩
    ·rw [hl,Bool.and_true] at hst
     repeat' (first|(simp only [cY,cP,dC,hd,h0,hg,Int.toNat_natCast,hr,Option.map_some,↓lQ,cK,↓wA,↓wC,wB,reduceEqDiff,reduceIte])|(refine cJ (hok) rfl rfl ?_)|(refine cL (hok) rfl rfl ?_)|(with_reducible refine cM ?_ ?_; focus (simp only [dX]; omega))|((first|apply cH|apply cI|apply cG)<;>intro h<;>try simp only [h]))
     all_goals first
      |(refine e7 (cV _ rfl ⟨⟨rfl,rfl⟩,⟨rfl,rfl⟩,trivial⟩) hlt (yG hinv ?_); focus (clear hok; rw [hst]; simp_all; done))
      |(refine (congrArg (fun b=>[D.bool b]) (pK hlt ?_)).symm; focus (clear hok; rw [hst]; simp_all; done))
      | trace_state
    ·repeat' (first|(simp only [cY,cP,dC,hd,h0,hg,h1,hy,hq,Int.toNat_natCast,hr,Option.map_some,↓lQ,↓zH,cK,↓wA,↓wC,wB,reduceEqDiff,reduceIte])|(refine cJ (hok) rfl rfl ?_)|(refine cL (hok) rfl rfl ?_)|(with_reducible refine cM ?_ ?_; focus (simp only [dX]; omega))|((first|apply cH|apply cI|apply cG)<;>intro h<;>try simp only [h]))
     all_goals first
      |(refine e7 (cV _ rfl ⟨⟨rfl,rfl⟩,⟨rfl,rfl⟩,trivial⟩) hlt (yG hinv ?_); focus (clear hok; rw [hst]; simp_all; done))
      |(refine (congrArg (fun b=>[D.bool b]) (pK hlt ?_)).symm; focus (clear hok; rw [hst]; simp_all; done))
      | trace_state
   ·intro hinv hd
    have hall:=aAt hinv
    rw [hall]
    simp only [Off.s,dQ]
    repeat' (first|(simp only [cY,cP,hd,cK,↓wA,↓wC,wB,reduceEqDiff,reduceIte])|((first|apply cH|apply cI|apply cG)<;>intro h<;>try simp only [h]))
 cases hho:rY o with
 | true=>simpa using body hho
 | false =>
  rw [hh] at hho
  rw [Bool.false_and]
  generalize hlg:eG o.led=b5 at *
  generalize c6 o.day 0 20000=b1 at *
  generalize c6 o.kept 0 999=b3 at *
  generalize c6 o.moved 0 999=b4 at *
  refine cW aPb [] ?_
  dsimp only [aPb,m53,rF,cS,cE,cR,c8]
  try simp only [wQ]
  simp only [Off.s,dQ]
  repeat' (first|(simp only [cY,cZ,cK,cP,↓wA,↓wC,wB,reduceEqDiff,reduceAdd,reduceIte,reduceCtorEq])|(refine cJ (hDay) rfl rfl ?_)|(refine cL (hDay) rfl rfl ?_)|(refine cJ (hK) rfl rfl ?_)|(refine cL (hK) rfl rfl ?_)|(refine cJ (hM) rfl rfl ?_)|(refine cL (hM) rfl rfl ?_)|(refine cJ (hL) rfl rfl ?_)|(refine cL (hL) rfl rfl ?_)|((first|apply cH|apply cI|apply cG)<;>intro h<;>try simp only [h]))
  all_goals first
   | rfl
   |(exfalso; clear hDay hK hM hL body; simp_all; done)
   |(exfalso; clear hDay hK hM hL body; simp_all; omega)
def Off.raw (o:Off):Prop:=o.cs.length<=maxLen/\(∀ x∈o.cs,x.h.length<=maxLen)/\o.led.length<=maxLen/\∀ s∈o.led,s.length<=maxLen
structure Con where
 o:Off
 d:List UInt8
 p:List UInt8
 c:Int
def rE (x y:D):D:=.st (.cons x (.cons y .nil))
def Con.s (x:Con):D:=rE x.o.s (eQ x.d x.p x.c)
def Con.o' (x:Con):D:=rE x.o.o (eQ x.d x.p x.c)
def Con.raw (x:Con):Prop:=x.o.raw/\x.d.length<=maxLen/\x.p.length<=maxLen
def Con.ok0 (x:Con):Prop:=x.o.ok0/\x.d.length + x.p.length<=1048576
def pH (x:Con):Bool:=dN x.o && lv x.d x.p x.c
theorem fD (d p:List UInt8) (c:Int):(eQ d p c).noOwn=true:=rfl
theorem aCn (d p:List UInt8) (c:Int):(eQ d p c).unown=eQ d p c:=rfl
theorem gK (d p:List UInt8) (c:Int):(eQ d p c).isV=true:=rfl
theorem kF (d p:List UInt8) (c:Int):(eQ d p c).size=3:=rfl
theorem aYd (o:Off):o.o.noOwn=false:=by simp [Off.o,dQ,D.noOwn]
theorem aXZ (x:Con):x.s.noOwn=true:=by simp [Con.s,rE,D.noOwn,aXW,fD]
theorem aYa (x:Con):x.s.unown=x.s:=by simp [Con.s,rE,D.unown,aX1,aCn]
theorem aYl (x:Con):x.o'.unown=x.s:=by simp [Con.o',Con.s,rE,D.unown,aX5,aCn]
theorem aXY (x:Con):x.s.isV=true:=rfl
theorem aX0 (x:Con):x.s.size=8:=rfl
theorem aYf (x:Con):x.o'.isV=true:=rfl
theorem aX9 (x:Con):x.o'.size=8:=rfl
theorem nT {x:Con} {K:SV->Prop}:dD 0 0 (.d (.ptr x.s)) K=K (.d (.ptr x.o.s)):=by simp [Con.s,rE,dD,D.pre,D.nth,Off.s,dQ,eQ]
theorem aAZ {x:Con} {K:SV->Prop}:dD 1 5 (.d (.ptr x.s)) K=K (.d (.ptr (eQ x.d x.p x.c))):=by simp [Con.s,rE,dD,D.pre,D.nth,D.size,Off.s,dQ,eQ]
theorem aFa {x:Con}:fB [0] x.s=0:=rfl
theorem aA7 {x:Con}:fB [1] x.s=5:=rfl
theorem aI1 {x:Con}:gG [0] x.s=some x.o.s:=rfl
theorem aA8 {x:Con}:gG [1] x.s=some (eQ x.d x.p x.c):=rfl
theorem eV {o:List Ob} {K:SV->Prop} {x:Con}:eI o (some 8) x.s K=K (.d x.s):=by simp [Con.s,rE,eI,D.size,D.noOwn,Off.s,dQ,cY,cZ,eQ]
theorem jK {o:List Ob} {K:SV->Prop} {d p:List UInt8} {c:Int}:eI o (some 3) (eQ d p c) K=K (.d (eQ d p c)):=by simp [eI,D.size,D.noOwn,eQ]
theorem aJO (d p:List UInt8) (c n:Int) (h0:0<=n) (h1:n<=1048576) (hd:d.length<=maxLen) (hp:p.length<=maxLen):Fn prog 6 [eQ d p c,.int .i64 n] (fun rs=>∃ m:Int,rs=[.int .i64 m]/\-1<=m/\m<=n/\(0<=m->d.length + p.length<=1048576)):=by
 rw [d5] at hd hp
 refine cW ef6 [] ?_
 dsimp only [ef6,m6,rF,cS,cE,cR,c8]
 try simp only [wQ]
 simp only [eQ]
 repeat' (first|(simp only [↓wA,↓wC,wB,cU,cT,reduceEqDiff,reduceAdd,reduceSub,reduceIte,reduceCtorEq,Nat.reduceBEq,reduceLT])|(refine cM (by simp only [dX]; omega) ?_)|(refine cM (by simp only [dX]; simp only [decide_eq_true_eq,decide_eq_false_iff_not] at *; omega) ?_)|((first|apply cH|apply cI|apply cG)<;>intro h<;>try simp only [h]))
 all_goals (simp only [decide_eq_true_eq,decide_eq_false_iff_not] at *; exact ⟨_,rfl,by omega,by omega,by omega⟩)
theorem xL (x:Con) (h:x.ok0):Fn prog 34 [x.s] (fun rs=>rs=[.bool (pH x)]):=by
 have h1:=iZ x.o h.1
 have h2:=vU x.d x.p x.c (by have:=h.2; omega)
 unfold pH
 cases hb:dN x.o<;>rw [hb] at h1
 all_goals
  refine cW aV0 [] ?_
  dsimp only [aV0,m34,rF,cS,cE,cR,c8]
  try simp only [wQ]
  repeat' (first|(simp only [aFa,aA7,aI1,aA8,fD,↓dL,↓jK,aXZ,aXY,aXW,aXX,cK,decide_true,↓wA,↓wC,wB,cU,cT,reduceEqDiff,reduceAdd,reduceSub,reduceIte,reduceCtorEq,Nat.reduceBEq,reduceLT])|(refine cJ h1 (by simp [dA,dK]) rfl ?_)|(refine cJ h2 (by simp [dA,dK]) rfl ?_)|((first|apply cH|apply cI|apply cG)<;>intro h<;>try simp only [h]))
 all_goals simp
theorem aH3 (x:Con) (h:x.ok0):Fn prog 29 [x.s] (fun rs=>rs=[.bool (pH x)]):=by
 have h1:=fS x.o h.1
 have h2:=u9 x.d x.p x.c (by have:=h.2; omega)
 unfold pH
 cases hb:dN x.o<;>rw [hb] at h1
 all_goals
  refine cW aT5 [] ?_
  dsimp only [aT5,m29,rF,cS,cE,cR,c8]
  try simp only [wQ]
  repeat' (first|(simp only [aFa,aA7,aI1,aA8,fD,↓dL,↓jK,aXZ,aXY,aXW,aXX,cK,decide_true,↓wA,↓wC,wB,cU,cT,reduceEqDiff,reduceAdd,reduceSub,reduceIte,reduceCtorEq,Nat.reduceBEq,reduceLT])|(refine cJ h1 (by simp [dA,dK]) rfl ?_)|(refine cJ h2 (by simp [dA,dK]) rfl ?_)|((first|apply cH|apply cI|apply cG)<;>intro h<;>try simp only [h]))
 all_goals simp
def logShC:Sh:=.st (.cons .str (.cons .str (.cons (.int .i64) .nil)))
theorem aF5 {w:World} {M:Nat->Prop}:∀ (L:List (List UInt8)) (ds:List Value) (fps:List Nat),(dl D.str L).rep w M ds fps->ds=L.map (fun s=>Value.string ⟨s.toArray⟩)
 | [],ds,fps,h=>h.1
 | s :: L,ds,fps,h=>by
  obtain ⟨c1,c2,f1,f2,rfl,_,h1,h2⟩:=h
  obtain ⟨rfl,_⟩:=h1
  rw [aF5 L c2 f2 h2]; rfl
theorem aOC (L:List (List UInt8)) (sep:List UInt8) (hN:L.length<=1048576) (hlen:(Lib.join L sep).length<=140737488355328):Fn prog 193 [.sl false 1 (dl D.str L),.str sep] (fun rs=>rs=[.str (Lib.join L sep)]):=by
 intro M vs w hM hG hv
 obtain ⟨cs,us,f1,f2,rfl,_,⟨_,a,c,ds,fps,rfl,hle,hds,hor⟩,⟨cs2,us2,f3,f4,rfl,_,⟨rfl,_⟩,rfl,_⟩⟩:=hv
 have hd:=aF5 L ds fps hds
 have hl:(dl D.str L).len=L.length:=cP L
 have e:(L.map fun s:List UInt8=>(⟨s.toArray⟩:ByteArray)).map (·.data.toList)=L:=by
  rw [List.map_map]; exact (List.map_congr_left (fun s _=>by simp)).trans (List.map_id _)
 have e2:(⟨sep.toArray⟩:ByteArray).data.toList=sep:=by simp
 have main:Calls prog.P 193 #[.slice a (dl D.str L).len c,.string ⟨sep.toArray⟩] w fun e w'=>e=.returned (.string ⟨(Lib.join L sep).toArray⟩)/\kN w w':=by
  cases L with
  | nil=>exact (Go.Proofs.Tryz.strings_Join_none a c ⟨sep.toArray⟩ w).mono (by rintro e w' ⟨rfl,rfl⟩; exact ⟨rfl,kN.refl _⟩)
  | cons x r =>
   rw [hl] at hle hor ⊢
   simp only [Bool.false_eq_true,if_false] at hor
   obtain ⟨rfl,_,h0|⟨ad,rfl,hh⟩⟩:=hor
   ·simp at h0
   ·rcases hh with h|⟨hlt,hnM,hcell⟩
    ·rw [h] at hd; simp at hd
    ·have h0:=hcell 0 _ (by rw [hd]; rfl)
     obtain ⟨bk,o,sp⟩:=ad
     cases sp with
     | some s =>
      simp only [World.cell?,Addr.add,if_true] at h0
      split at h0
      ·simp at h0
      ·cases h0
     | none =>
      have hJ:=Go.Proofs.Tryz.strings_Join bk o c ((x :: r).map fun s:List UInt8=>(⟨s.toArray⟩:ByteArray)) ⟨sep.toArray⟩ w (fun j y hy=>by
       rw [List.getElem?_map] at hy
       obtain ⟨s,hs,rfl⟩:=Option.map_eq_some_iff.1 hy
       have:=hcell j (.string ⟨s.toArray⟩) (by rw [hd,List.getElem?_map,hs]; rfl)
       unfold Addr.add at this
       split at this
       ·rename_i hj; subst hj; exact this
       ·exact this) hlt (by rw [List.length_map]; omega) (by rw [List.length_map]; exact hle) (by rw [e,e2]; exact hlen)
      rw [e,e2,List.length_map] at hJ
      exact hJ
 refine Calls.mono main ?_
 rintro e w' ⟨rfl,hx⟩
 exact ⟨[.str (Lib.join L sep)],[.string ⟨(Lib.join L sep).toArray⟩],[],rfl,rfl,uF rfl,List.nodup_nil,(fun b hb=>by cases hb),hx⟩
theorem rP (sep:List UInt8) (k:Nat):∀ r:List (List UInt8),(∀ x∈r,x.length<=k)->(Lib.joinTail sep r).length<=r.length * (sep.length + k)
 | [],_=>by simp [Lib.joinTail]
 | x :: r,h=>by
  have h1:=rP sep k r (fun y hy=>h y (List.mem_cons_of_mem _ hy))
  have h2:=h x List.mem_cons_self
  have:Lib.joinTail sep (x :: r)=sep ++ x ++ Lib.joinTail sep r:=rfl
  rw [this]
  simp only [List.length_append,List.length_cons,Nat.add_mul,Nat.one_mul]
  omega
theorem aCt (sep:List UInt8) (k:Nat):∀ r:List (List UInt8),(∀ x∈r,x.length<=k)->(Lib.join r sep).length<=r.length * (sep.length + k)
 | [],_=>by simp [Lib.join]
 | x :: r,h=>by
  have h1:=rP sep k r (fun y hy=>h y (List.mem_cons_of_mem _ hy))
  have h2:=h x List.mem_cons_self
  rw [Lib.join_cons]
  simp only [List.length_append,List.length_cons,Nat.add_mul,Nat.one_mul]
  omega
theorem zN {v:List Int} (hv:∀ n∈v,dX .i64 n):∀ x∈v.map Lib.itoa,x.length<=21:=by
 intro x hx
 obtain ⟨n,hn,rfl⟩:=List.mem_map.1 hx
 exact eL n (hv n hn)
theorem aAl (v:List Int) (sep:List UInt8) (hv:∀ n∈v,dX .i64 n) (hl:v.length<=1000) (hs:sep.length<=1000):Fn prog 152 [.sl false 1 (dl iD v),.str sep] (fun rs=>rs=[.str (Lib.join (v.map Lib.itoa) sep)]):=by
 have hL:=aCt sep 21 (v.map Lib.itoa) (zN hv)
 have hb:(v.map Lib.itoa).length * (sep.length + 21)<=1000 * 1021:=Nat.mul_le_mul (by simpa using hl) (by omega)
 have hJ:=aOC (v.map Lib.itoa) sep (by simp; omega) (by omega)
 refine cW aRE [] ?_
 dsimp only [aRE,aUe,rF,cS,cE,cR,c8]
 try simp only [wQ]
 simp only [↓wA,↓wC,wB,reduceEqDiff,reduceAdd,reduceIte,reduceCtorEq]
 simp only [cP]
 refine cO (by omega) ?_
 have hz:i6 (List.replicate (↑v.length:Int).toNat (D.str []))=dl D.str ((v.map Lib.itoa).take 0 ++ List.replicate (v.length - 0) []):=by
  rw [aEk]; simp
 rw [hz]
 refine dV v.length (fun i:Nat=>⟨[(1,.d (.str sep)),(5,.own 0),(11,.d (.sl false 1 (dl iD v))),(12,.d (.int .i64 v.length)),(13,.d (.int .i64 i))],[.val (.sl true 1 (dl D.str ((v.map Lib.itoa).take i ++ List.replicate (v.length - i) [])))]⟩) (fun _=>True) (cV _ rfl ⟨⟨rfl,rfl⟩,⟨rfl,rfl⟩,⟨rfl,rfl⟩,⟨rfl,rfl⟩,⟨rfl,rfl⟩,trivial⟩) trivial ?_ ?_
 ·intro i hlt _ hd h0
  obtain ⟨n,hr⟩:=dW hlt
  have hrs:(v.map Lib.itoa)[i]?=some (Lib.itoa n):=by rw [List.getElem?_map,hr]; rfl
  have hD:=eZ n (hv n (List.mem_of_getElem? hr))
  have hn:((v.map Lib.itoa).take i ++ List.replicate (v.length - i) ([]:List UInt8))[i]?=some []:=by
   rw [List.getElem?_append_right (by simp; omega),List.length_take,List.length_map,Nat.min_eq_left (by omega),Nat.sub_self,show v.length - i=(v.length - (i + 1)) + 1 by omega]; rfl
  have hfs:(dl D.str ((v.map Lib.itoa).take i ++ List.replicate (v.length - i) ([]:List UInt8))).setN i (D.str (Lib.itoa n))=dl D.str ((v.map Lib.itoa).take (i + 1) ++ List.replicate (v.length - (i + 1)) []):=by
   have hl:v.length=(v.map Lib.itoa).length:=by simp
   rw [kH]
   conv=>lhs; rw [hl]
   conv=>rhs; rw [hl]
   rw [aKW hrs]
  repeat' (first|(simp only [dC,hd,h0,Int.toNat_natCast,hr,hn,hfs,Option.map_some,cK,iD,↓wA,↓wC,wB,reduceEqDiff,reduceIte])|(refine cJ hD rfl rfl ?_)|(with_reducible refine cM ?_ ?_; focus (simp only [dX]; omega))|((first|apply cH|apply cI|apply cG)<;>intro h<;>try simp only [h]))
  all_goals exact ⟨i + 1,(cV _ rfl ⟨⟨rfl,rfl⟩,⟨rfl,rfl⟩,⟨rfl,rfl⟩,⟨rfl,rfl⟩,⟨rfl,rfl⟩,trivial⟩),by omega,by omega⟩
 ·intro _ hd
  have h1:(v.map Lib.itoa).take v.length=v.map Lib.itoa:=List.take_of_length_le (by simp)
  rw [h1,Nat.sub_self,List.replicate_zero,List.append_nil]
  repeat' (first|(simp only [hd,↓wA,↓wC,wB,reduceEqDiff,reduceIte])|(refine cJ hJ (by simp [dA,dK,nQ,D.unown,gD]) rfl ?_)|((first|apply cH|apply cI|apply cG)<;>intro h<;>try simp only [h]))
  all_goals trace_state
def lN (v:List Int):List UInt8:=if v=[] then [] else [32,104,101,108,100,32] ++ Lib.join (v.map Lib.itoa) [44]
theorem aIA (u:List Int) (n:Int):lN (u ++ [n])=lN u ++ (if u=[] then [32,104,101,108,100,32] else [44]) ++ Lib.itoa n:=by
 cases u with
 | nil=>simp [lN,Lib.join_one]
 | cons x r =>
  have h1:Lib.joinTail [44] (r.map Lib.itoa ++ [Lib.itoa n])=Lib.joinTail [44] (r.map Lib.itoa) ++ ([44] ++ Lib.itoa n):=by simp [Lib.joinTail]
  simp only [lN,List.cons_append,if_neg (List.cons_ne_nil _ _),List.map_cons,List.map_append,List.map_nil,Lib.join_cons,h1,List.append_assoc]
theorem aFN {v:List Int} {i:Nat} {n:Int} (hr:v[i]?=some n):lN (v.take (i + 1))=lN (v.take i) ++ (if i=0 then [32,104,101,108,100,32] else [44]) ++ Lib.itoa n:=by
 have hi:=cQ hr
 rw [fG hr,aIA]
 by_cases h:i=0
 ·subst h; simp
 ·have:v.take i≠[]:=by
   intro h'
   have:=congrArg List.length h'
   rw [List.length_take,Nat.min_eq_left (by omega)] at this
   exact h this
  rw [if_neg this,if_neg h]
theorem uU {v:List Int} (hv:∀ n∈v,dX .i64 n):(lN v).length<=6 + v.length * 22:=by
 unfold lN
 split
 ·simp
 ·have:=aCt [44] 21 (v.map Lib.itoa) (zN hv)
  simp only [List.length_append,List.length_map,List.length_cons,List.length_nil] at this ⊢
  omega
def aJC (a:Int):List UInt8:=if a=1 then [107,101,101,112] else if a=2 then [116,114,97,110,115,102,101,114] else [100,101,115,116,114,111,121]
def txt (x:Cs):List UInt8:=aJC x.a ++ [32,100,117,101,32] ++ Lib.itoa x.d ++ lN x.h
theorem aBx {x:Cs} (h:gB x=true):(x.a=1\/x.a=2\/x.a=3)/\(0<=x.i/\dX .i64 x.i)/\(0<=x.d/\dX .i64 x.d)/\x.h.length<=5/\∀ n∈x.h,0<=n/\dX .i64 n:=by
 simp only [gB,Bool.and_eq_true,c6,decide_eq_true_eq,List.all_eq_true] at h
 obtain ⟨⟨⟨⟨h1,h2⟩,h3⟩,h4⟩,h5,_⟩:=h
 refine ⟨by omega,⟨by omega,by simp only [dX]; omega⟩,⟨by omega,by simp only [dX]; omega⟩,by omega,fun n hn=>?_⟩
 have:=h5 n hn
 exact ⟨by omega,by simp only [dX]; omega⟩
theorem aMs (a:Int):(aJC a).length<=8:=by
 unfold aJC
 split
 ·simp
 ·split<;>simp
theorem aGg:((1:Int) - 1).toNat=0:=rfl
theorem aFr:((2:Int) - 1).toNat=1:=rfl
theorem aCq:((3:Int) - 1).toNat=2:=rfl
theorem aMz:decide ((0:Int) < ((0:Nat):Int))=false:=rfl
theorem aOL:((1:Int)).toNat=1:=rfl
theorem aPg:((2:Int)).toNat=2:=rfl
theorem aJF:((3:Int)).toNat=3:=rfl
theorem aG1 (x:Cs) (h:gB x=true):Fn prog 156 [x.s] (fun rs=>rs=[.str (txt x)]):=by
 obtain ⟨hA,_,h3,h4,h5⟩:=aBx h
 have hD:=eZ x.d h3.2
 have hH:=aAl x.h [44] (fun n hn=>(h5 n hn).2) (by omega) (by simp)
 have hT:=uU (v:=x.h) (fun n hn=>(h5 n hn).2)
 have hi:=eL x.d h3.2
 have hJl:=aCt [44] 21 (x.h.map Lib.itoa) (zN (fun n hn=>(h5 n hn).2))
 simp only [List.length_map,List.length_cons,List.length_nil] at hJl
 obtain ⟨xi,a,d,hs⟩:=x
 simp only at hA h3 h4 h5 hD hH hT hi hJl
 unfold txt
 rcases hA with rfl|rfl|rfl
 all_goals
  cases hs with
  | nil =>
   refine cW aIJ [] ?_
   dsimp only [aIJ,aTn,rF,cS,cE,cR,c8]
   try simp only [wQ]
   simp only [Cs.s,Cs.p]
   repeat' (first|(simp only [cK,dE,aMz,aGg,aFr,aCq,cP,↓wA,↓wC,wB,reduceEqDiff,reduceAdd,reduceIte,reduceCtorEq,Nat.reduceBEq,reduceLT])|(refine cJ hD rfl rfl ?_)|(refine dJ ?_)|(with_reducible refine And.intro ?_ ?_)|(with_reducible refine cO ?_ ?_; focus ((try simp only [List.length_append,List.length_cons,List.length_nil]); omega))|(with_reducible refine cM ?_ ?_; focus (simp only [dX]; omega))|((first|apply cH|apply cI|apply cG)<;>intro h<;>try simp only [h]))
   all_goals (simp [aJC,lN]; done)
  | cons n r =>
   have hd0:decide ((0:Int) < ((n :: r).length:Int))=true:=decide_eq_true (by simp only [List.length_cons]; omega)
   have hd1:decide (((n :: r).length:Int) > 0)=true:=hd0
   have hT2:lN (n :: r)=[32,104,101,108,100,32] ++ Lib.join ((n :: r).map Lib.itoa) [44]:=rfl
   generalize n :: r=hs at *
   refine cW aIJ [] ?_
   dsimp only [aIJ,aTn,rF,cS,cE,cR,c8]
   try simp only [wQ]
   simp only [Cs.s,Cs.p]
   repeat' (first|(simp only [cK,dE,aGg,aFr,aCq,cP,hd0,↓wA,↓wC,wB,reduceEqDiff,reduceAdd,reduceIte,reduceCtorEq,Nat.reduceBEq,reduceLT])|(refine cJ hD rfl rfl ?_)|(refine cJ hH rfl rfl ?_)|(refine dJ ?_)|(with_reducible refine And.intro ?_ ?_)|(with_reducible refine cO ?_ ?_; focus ((try simp only [List.length_append,List.length_cons,List.length_nil]); omega))|(with_reducible refine cM ?_ ?_; focus (simp only [dX]; omega))|((first|apply cH|apply cI|apply cG)<;>intro h<;>try simp only [h]))
   all_goals (simp [aJC,hT2]; done)
def pre (a:Int):List UInt8:=aJC a ++ [32,100,117,101,32]
theorem aW2 (t:List UInt8):(107 :: 101 :: 101 :: 112 :: 32 :: 100 :: 117 :: 101 :: 32 :: t:List UInt8)=pre 1 ++ t:=rfl
theorem aWE (t:List UInt8):(116 :: 114 :: 97 :: 110 :: 115 :: 102 :: 101 :: 114 :: 32 :: 100 :: 117 :: 101 :: 32 :: t:List UInt8)=pre 2 ++ t:=rfl
theorem aW0 (t:List UInt8):(100 :: 101 :: 115 :: 116 :: 114 :: 111 :: 121 :: 32 :: 100 :: 117 :: 101 :: 32 :: t:List UInt8)=pre 3 ++ t:=rfl
theorem aPO (x:Cs):txt x=pre x.a ++ (Lib.itoa x.d ++ lN x.h):=by simp [txt,pre]
theorem aEW (a:Int):(pre a).length<=13:=by
 have:=aMs a
 simp only [pre,List.length_append,List.length_cons,List.length_nil]
 omega
theorem aE6 (v:List Int):lN (v.take 0)=[]:=rfl
theorem aEr {v:List Int} {i:Nat} {n:Int} (hr:v[i]?=some n) (h:i=0):lN (v.take (i + 1))=lN (v.take i) ++ (32 :: 104 :: 101 :: 108 :: 100 :: 32 :: Lib.itoa n):=by
 rw [aFN hr,if_pos h,List.append_assoc]; rfl
theorem aE0 {v:List Int} {i:Nat} {n:Int} (hr:v[i]?=some n) (h:¬ i=0):lN (v.take (i + 1))=lN (v.take i) ++ (44 :: Lib.itoa n):=by
 rw [aFN hr,if_neg h,List.append_assoc]; rfl
theorem aHM (x:Cs) (h:gB x=true):Fn prog 167 [x.s] (fun rs=>rs=[.str (txt x)]):=by
 obtain ⟨hA,_,h3,h4,h5⟩:=aBx h
 have hD:=fI x.d h3.1 h3.2
 have hi:=eL x.d h3.2
 rw [aPO]
 obtain ⟨xi,a,d,hs⟩:=x
 simp only at hA h3 h4 h5 hD hi ⊢
 rcases hA with rfl|rfl|rfl
 ·skip
  refine cW aDv [] ?_
  dsimp only [aDv,aO7,rF,cS,cE,cR,c8]
  try simp only [wQ]
  simp only [Cs.s,Cs.p]
  repeat' (first|(simp only [cK,aOL,↓wA,↓wC,wB,reduceEqDiff,reduceAdd,reduceIte,reduceCtorEq,Nat.reduceBEq,reduceLT])|(refine cJ hD rfl rfl ?_)|(refine dJ ?_)|(with_reducible refine And.intro ?_ ?_)|(with_reducible refine cO ?_ ?_; focus ((try simp only [List.length_append,List.length_cons,List.length_nil]); omega))|(with_reducible refine cM ?_ ?_; focus (simp only [dX]; omega))|((first|apply cH|apply cI|apply cG)<;>intro h<;>try simp only [h]))
  all_goals simp only [aW2]
  all_goals have hpl:=aEW 1
  all_goals refine dV hs.length (fun i:Nat=>⟨[(1,.ptr 0 0 []),(3,.d (.str (pre 1 ++ (Lib.itoa d ++ lN (hs.take i))))),(4,.d (.int .i64 i))],[.box (.st (.cons (.int .i64 xi) (.cons (.int .i64 1) (.cons (.int .i64 d) (.cons (.sl false 1 (dl iD hs)) .nil)))))]⟩) (fun _=>True) (by rw [aE6,List.append_nil]; exact (cV _ rfl ⟨⟨rfl,rfl⟩,⟨rfl,rfl⟩,⟨rfl,rfl⟩,trivial⟩)) trivial ?_ ?_
  all_goals first
   |(intro _ hd
     repeat' (first|(simp only [cK,dE,cP,hd,List.take_length,↓wA,↓wC,wB,reduceEqDiff,reduceAdd,reduceIte])|((first|apply cH|apply cI|apply cG)<;>intro h<;>try simp only [h]))
     done)
   | skip
  all_goals
   intro i hlt _ hd h0
   obtain ⟨n,hr⟩:=dW hlt
   have hn5:=h5 n (List.mem_of_getElem? hr)
   have hN:=fI n hn5.1 hn5.2
   have hnl:=eL n hn5.2
   have hTl:=uU (v:=hs.take i) (fun m hm=>(h5 m (List.mem_of_mem_take hm)).2)
   rw [List.length_take,Nat.min_eq_left (by omega)] at hTl
   by_cases hi0:i=0
   ·have hq:decide ((i:Int)=0)=true:=decide_eq_true (by omega)
    have hx:=aEr hr hi0
    repeat' (first|(simp only [cK,dE,cP,dC,hd,h0,hq,Int.toNat_natCast,hr,Option.map_some,iD,↓wA,↓wC,wB,reduceEqDiff,reduceAdd,reduceIte])|(refine cJ hN rfl rfl ?_)|(with_reducible refine cO ?_ ?_; focus ((try simp only [List.length_append,List.length_cons,List.length_nil]); omega))|(with_reducible refine cM ?_ ?_; focus (simp only [dX]; omega))|((first|apply cH|apply cI|apply cG)<;>intro h<;>try simp only [h]))
    all_goals (refine ⟨i + 1,?_,by omega,by omega⟩; rw [hx]; (try simp only [List.append_assoc,List.cons_append,List.nil_append]); exact (cV _ rfl ⟨⟨rfl,rfl⟩,⟨rfl,rfl⟩,⟨rfl,rfl⟩,trivial⟩))
   ·have hq:decide ((i:Int)=0)=false:=decide_eq_false (by omega)
    have hx:=aE0 hr hi0
    repeat' (first|(simp only [cK,dE,cP,dC,hd,h0,hq,Int.toNat_natCast,hr,Option.map_some,iD,↓wA,↓wC,wB,reduceEqDiff,reduceAdd,reduceIte])|(refine cJ hN rfl rfl ?_)|(with_reducible refine cO ?_ ?_; focus ((try simp only [List.length_append,List.length_cons,List.length_nil]); omega))|(with_reducible refine cM ?_ ?_; focus (simp only [dX]; omega))|((first|apply cH|apply cI|apply cG)<;>intro h<;>try simp only [h]))
    all_goals (refine ⟨i + 1,?_,by omega,by omega⟩; rw [hx]; (try simp only [List.append_assoc,List.cons_append,List.nil_append]); exact (cV _ rfl ⟨⟨rfl,rfl⟩,⟨rfl,rfl⟩,⟨rfl,rfl⟩,trivial⟩))
 ·skip
  refine cW aDv [] ?_
  dsimp only [aDv,aO7,rF,cS,cE,cR,c8]
  try simp only [wQ]
  simp only [Cs.s,Cs.p]
  repeat' (first|(simp only [cK,aPg,↓wA,↓wC,wB,reduceEqDiff,reduceAdd,reduceIte,reduceCtorEq,Nat.reduceBEq,reduceLT])|(refine cJ hD rfl rfl ?_)|(refine dJ ?_)|(with_reducible refine And.intro ?_ ?_)|(with_reducible refine cO ?_ ?_; focus ((try simp only [List.length_append,List.length_cons,List.length_nil]); omega))|(with_reducible refine cM ?_ ?_; focus (simp only [dX]; omega))|((first|apply cH|apply cI|apply cG)<;>intro h<;>try simp only [h]))
  all_goals simp only [aWE]
  all_goals have hpl:=aEW 2
  all_goals refine dV hs.length (fun i:Nat=>⟨[(1,.ptr 0 0 []),(3,.d (.str (pre 2 ++ (Lib.itoa d ++ lN (hs.take i))))),(4,.d (.int .i64 i))],[.box (.st (.cons (.int .i64 xi) (.cons (.int .i64 2) (.cons (.int .i64 d) (.cons (.sl false 1 (dl iD hs)) .nil)))))]⟩) (fun _=>True) (by rw [aE6,List.append_nil]; exact (cV _ rfl ⟨⟨rfl,rfl⟩,⟨rfl,rfl⟩,⟨rfl,rfl⟩,trivial⟩)) trivial ?_ ?_
  all_goals first
   |(intro _ hd
     repeat' (first|(simp only [cK,dE,cP,hd,List.take_length,↓wA,↓wC,wB,reduceEqDiff,reduceAdd,reduceIte])|((first|apply cH|apply cI|apply cG)<;>intro h<;>try simp only [h]))
     done)
   | skip
  all_goals
   intro i hlt _ hd h0
   obtain ⟨n,hr⟩:=dW hlt
   have hn5:=h5 n (List.mem_of_getElem? hr)
   have hN:=fI n hn5.1 hn5.2
   have hnl:=eL n hn5.2
   have hTl:=uU (v:=hs.take i) (fun m hm=>(h5 m (List.mem_of_mem_take hm)).2)
   rw [List.length_take,Nat.min_eq_left (by omega)] at hTl
   by_cases hi0:i=0
   ·have hq:decide ((i:Int)=0)=true:=decide_eq_true (by omega)
    have hx:=aEr hr hi0
    repeat' (first|(simp only [cK,dE,cP,dC,hd,h0,hq,Int.toNat_natCast,hr,Option.map_some,iD,↓wA,↓wC,wB,reduceEqDiff,reduceAdd,reduceIte])|(refine cJ hN rfl rfl ?_)|(with_reducible refine cO ?_ ?_; focus ((try simp only [List.length_append,List.length_cons,List.length_nil]); omega))|(with_reducible refine cM ?_ ?_; focus (simp only [dX]; omega))|((first|apply cH|apply cI|apply cG)<;>intro h<;>try simp only [h]))
    all_goals (refine ⟨i + 1,?_,by omega,by omega⟩; rw [hx]; (try simp only [List.append_assoc,List.cons_append,List.nil_append]); exact (cV _ rfl ⟨⟨rfl,rfl⟩,⟨rfl,rfl⟩,⟨rfl,rfl⟩,trivial⟩))
   ·have hq:decide ((i:Int)=0)=false:=decide_eq_false (by omega)
    have hx:=aE0 hr hi0
    repeat' (first|(simp only [cK,dE,cP,dC,hd,h0,hq,Int.toNat_natCast,hr,Option.map_some,iD,↓wA,↓wC,wB,reduceEqDiff,reduceAdd,reduceIte])|(refine cJ hN rfl rfl ?_)|(with_reducible refine cO ?_ ?_; focus ((try simp only [List.length_append,List.length_cons,List.length_nil]); omega))|(with_reducible refine cM ?_ ?_; focus (simp only [dX]; omega))|((first|apply cH|apply cI|apply cG)<;>intro h<;>try simp only [h]))
    all_goals (refine ⟨i + 1,?_,by omega,by omega⟩; rw [hx]; (try simp only [List.append_assoc,List.cons_append,List.nil_append]); exact (cV _ rfl ⟨⟨rfl,rfl⟩,⟨rfl,rfl⟩,⟨rfl,rfl⟩,trivial⟩))
 ·skip
  refine cW aDv [] ?_
  dsimp only [aDv,aO7,rF,cS,cE,cR,c8]
  try simp only [wQ]
  simp only [Cs.s,Cs.p]
  repeat' (first|(simp only [cK,aJF,↓wA,↓wC,wB,reduceEqDiff,reduceAdd,reduceIte,reduceCtorEq,Nat.reduceBEq,reduceLT])|(refine cJ hD rfl rfl ?_)|(refine dJ ?_)|(with_reducible refine And.intro ?_ ?_)|(with_reducible refine cO ?_ ?_; focus ((try simp only [List.length_append,List.length_cons,List.length_nil]); omega))|(with_reducible refine cM ?_ ?_; focus (simp only [dX]; omega))|((first|apply cH|apply cI|apply cG)<;>intro h<;>try simp only [h]))
  all_goals simp only [aW0]
  all_goals have hpl:=aEW 3
  all_goals refine dV hs.length (fun i:Nat=>⟨[(1,.ptr 0 0 []),(3,.d (.str (pre 3 ++ (Lib.itoa d ++ lN (hs.take i))))),(4,.d (.int .i64 i))],[.box (.st (.cons (.int .i64 xi) (.cons (.int .i64 3) (.cons (.int .i64 d) (.cons (.sl false 1 (dl iD hs)) .nil)))))]⟩) (fun _=>True) (by rw [aE6,List.append_nil]; exact (cV _ rfl ⟨⟨rfl,rfl⟩,⟨rfl,rfl⟩,⟨rfl,rfl⟩,trivial⟩)) trivial ?_ ?_
  all_goals first
   |(intro _ hd
     repeat' (first|(simp only [cK,dE,cP,hd,List.take_length,↓wA,↓wC,wB,reduceEqDiff,reduceAdd,reduceIte])|((first|apply cH|apply cI|apply cG)<;>intro h<;>try simp only [h]))
     done)
   | skip
  all_goals
   intro i hlt _ hd h0
   obtain ⟨n,hr⟩:=dW hlt
   have hn5:=h5 n (List.mem_of_getElem? hr)
   have hN:=fI n hn5.1 hn5.2
   have hnl:=eL n hn5.2
   have hTl:=uU (v:=hs.take i) (fun m hm=>(h5 m (List.mem_of_mem_take hm)).2)
   rw [List.length_take,Nat.min_eq_left (by omega)] at hTl
   by_cases hi0:i=0
   ·have hq:decide ((i:Int)=0)=true:=decide_eq_true (by omega)
    have hx:=aEr hr hi0
    repeat' (first|(simp only [cK,dE,cP,dC,hd,h0,hq,Int.toNat_natCast,hr,Option.map_some,iD,↓wA,↓wC,wB,reduceEqDiff,reduceAdd,reduceIte])|(refine cJ hN rfl rfl ?_)|(with_reducible refine cO ?_ ?_; focus ((try simp only [List.length_append,List.length_cons,List.length_nil]); omega))|(with_reducible refine cM ?_ ?_; focus (simp only [dX]; omega))|((first|apply cH|apply cI|apply cG)<;>intro h<;>try simp only [h]))
    all_goals (refine ⟨i + 1,?_,by omega,by omega⟩; rw [hx]; (try simp only [List.append_assoc,List.cons_append,List.nil_append]); exact (cV _ rfl ⟨⟨rfl,rfl⟩,⟨rfl,rfl⟩,⟨rfl,rfl⟩,trivial⟩))
   ·have hq:decide ((i:Int)=0)=false:=decide_eq_false (by omega)
    have hx:=aE0 hr hi0
    repeat' (first|(simp only [cK,dE,cP,dC,hd,h0,hq,Int.toNat_natCast,hr,Option.map_some,iD,↓wA,↓wC,wB,reduceEqDiff,reduceAdd,reduceIte])|(refine cJ hN rfl rfl ?_)|(with_reducible refine cO ?_ ?_; focus ((try simp only [List.length_append,List.length_cons,List.length_nil]); omega))|(with_reducible refine cM ?_ ?_; focus (simp only [dX]; omega))|((first|apply cH|apply cI|apply cG)<;>intro h<;>try simp only [h]))
    all_goals (refine ⟨i + 1,?_,by omega,by omega⟩; rw [hx]; (try simp only [List.append_assoc,List.cons_append,List.nil_append]); exact (cV _ rfl ⟨⟨rfl,rfl⟩,⟨rfl,rfl⟩,⟨rfl,rfl⟩,trivial⟩))
end Go.Pe.Tryz
namespace Go.Pe.Tryz
open Nat (reduceEqDiff reduceAdd reduceSub reduceLT)
open Go.Proofs.Tryz Go.Sort
theorem tX {x:Con}:fB [1,2] x.s=7:=rfl
theorem tM {x:Con}:gG [1,2] x.s=some (.int .i64 x.c):=rfl
theorem sO {x:Off}:fB [0] x.s=0:=rfl
theorem iR {x:Off}:fB [1] x.s=1:=rfl
theorem aPT {x:Off}:fB [2] x.s=2:=rfl
theorem aP0 {x:Off}:fB [3] x.s=3:=rfl
theorem xG {x:Off}:fB [4] x.s=4:=rfl
theorem sM {x:Off}:gG [0] x.s=some (.int .i64 x.day):=rfl
theorem iQ {x:Off}:gG [1] x.s=some (.sl false 4 (dl Cs.s x.cs)):=rfl
theorem aOd {x:Off}:gG [2] x.s=some (.int .i64 x.kept):=rfl
theorem aPU {x:Off}:gG [3] x.s=some (.int .i64 x.moved):=rfl
theorem yU {x:Off}:gG [4] x.s=some (.sl false 1 (dl D.str x.led)):=rfl
end Go.Pe.Tryz
namespace Go.Pe.Tryz
open Nat (reduceEqDiff reduceAdd reduceSub reduceLT)
open Go.Proofs.Tryz
theorem aDg (p:Cs->Bool) (g:Nat) (c:D) (xs:List Cs) (hc:c.caps=true) (he:fX prog.P g=true) (hlen:xs.length<=1048576) (hp:∀ x∈xs,Fn prog g (Cs.s x :: c.list) (fun rs=>rs=[.bool (p x)])) :
  Fn prog 185 [.sl false 4 (dl Cs.s xs),.clo g c] (fun rs=>rs=[.int .i64 (jX p xs)]):=by
 refine cW aRq [] ?_
 dsimp only [aRq,aWl,rF,cS,cE,cR,c8]
 try simp only [wQ]
 simp only [cP,↓wA,↓wC,wB,reduceEqDiff,reduceAdd,reduceIte,reduceCtorEq]
 refine dV xs.length (fun i:Nat=>⟨[(0,.d (.sl false 4 (dl Cs.s xs))),(1,.d (.clo g c)),(7,.d (.int .i64 xs.length)),(8,.d (.int .i64 i))],[]⟩) (fun i=>∀ j r,j < i->xs[j]?=some r->p r=false) (cV _ rfl ⟨⟨rfl,rfl⟩,⟨rfl,rfl⟩,⟨rfl,rfl⟩,⟨rfl,rfl⟩,trivial⟩) (fun j r hj=>by omega) ?_ ?_
 ·intro i hlt hinv hd h0
  obtain ⟨r,hr⟩:=dW hlt
  have hcl:=hp r (List.mem_of_getElem? hr)
  simp only [hd,h0,dC,Int.toNat_natCast,hr,Option.map_some,cK,↓lQ,↓wA,↓wC,wB,reduceEqDiff,reduceIte,reduceCtorEq]
  refine uV (ds:=[Cs.s r]) hcl he hc (by simp [dA,dK]) rfl ?_
  cases hpr:p r with
  | true =>
   simp only [↓wA,↓wC,wB,reduceEqDiff,reduceIte,reduceCtorEq]
   rw [qH hr hpr hinv]
  | false =>
   simp only [↓wA,↓wC,wB,reduceEqDiff,reduceIte,reduceCtorEq]
   refine cM (by simp only [dX]; omega) ?_
   refine e7 (cV _ rfl ⟨⟨rfl,rfl⟩,⟨rfl,rfl⟩,⟨rfl,rfl⟩,⟨rfl,rfl⟩,trivial⟩) hlt fun j s hj hs=>?_
   by_cases e:j=i
   ·subst e; rw [hr] at hs; injection hs with hs; rw [<- hs]; exact hpr
   ·exact hinv j s (by omega) hs
 ·intro hinv hd
  simp only [hd,↓wA,↓wC,wB,reduceEqDiff,reduceIte,reduceCtorEq]
  rw [oW fun j r hj=>hinv j r (cQ hj) hj]
def fN (xs:List Cs) (id:Int):Int:=jX (fun x:Cs=>decide (x.i=id)) xs
theorem lM (xs:List Cs) (id:Int):(decide (fN xs id < 0)=true/\decide (0<=fN xs id)=false)\/∃ (i:Nat) (x:Cs),fN xs id=(i:Int)/\xs[i]?=some x/\x.i=id:=by
 by_cases h:0<=fN xs id
 ·obtain ⟨i,x,h1,h2,h3⟩:=aGO h
  exact .inr ⟨i,x,h1,h2,by simpa using h3⟩
 ·exact .inl ⟨decide_eq_true (by omega),decide_eq_false h⟩
theorem aIg (x:Cs) (id:Int):Fn prog 186 [x.s,.ptr (.int .i64 id)] (fun rs=>rs=[.bool (decide (x.i=id))]):=by
 refine cW aQy [] ?_
 dsimp only [aQy,aTH,rF,cS,cE,cR,c8]
 try simp only [wQ]
 simp only [Cs.s,Cs.p]
 repeat' (first|(simp only [cK,↓wA,↓wC,wB,reduceEqDiff,reduceAdd,reduceIte,reduceCtorEq])|((first|apply cH|apply cI|apply cG)<;>intro h<;>try simp only [h]))
theorem zT (o:Off) (id:Int) (ho:o.ok0):Fn prog 145 [o.s,.int .i64 id] (fun rs=>rs=[.int .i64 (fN o.cs id)]):=by
 have h:=aDg (fun x=>decide (x.i=id)) 186 (.cons (.ptr (.int .i64 id)) .nil) o.cs rfl aVO ho.1.1 (fun x _=>aIg x id)
 refine cW aRi [[1,0]] ?_
 dsimp only [aRi,aUF,rF,cS,cE,cR,c8]
 try simp only [wQ]
 repeat' (first|(simp only [aXX,cK,↓wA,↓wC,wB,reduceEqDiff,reduceAdd,reduceIte,reduceCtorEq])|((first|apply cH|apply cI|apply cG)<;>intro h<;>try simp only [h]))
 refine dB (gJ 1 rfl) ?_
 repeat' (first|(simp only [cK,cY,iR,iQ,↓wA,↓wC,wB,cU,cT,reduceEqDiff,reduceAdd,reduceIte,reduceCtorEq])|(refine cJ (h) rfl rfl ?_)|(refine cL (h) rfl rfl ?_)|((first|apply cH|apply cI|apply cG)<;>intro h<;>try simp only [h]))
 all_goals rfl
theorem jU (o:Off) (id:Int) (ho:o.ok0):Fn prog 166 [o.s,.int .i64 id] (fun rs=>rs=[.int .i64 (fN o.cs id)]):=by
 have hlen:=ho.1.1
 refine cW aQz [] ?_
 dsimp only [aQz,aVi,rF,cS,cE,cR,c8]
 try simp only [wQ]
 repeat' (first|(simp only [aXX,cK,↓wA,↓wC,wB,reduceEqDiff,reduceAdd,reduceIte,reduceCtorEq])|((first|apply cH|apply cI|apply cG)<;>intro h<;>try simp only [h]))
 refine dV o.cs.length (fun i:Nat=>⟨[(1,.d (.int .i64 id)),(2,.ptr 0 0 []),(5,.d (.int .i64 i))],[.box o.s]⟩) (fun i=>∀ j r,j < i->o.cs[j]?=some r->decide (r.i=id)=false) (cV _ rfl ⟨⟨rfl,rfl⟩,⟨rfl,rfl⟩,⟨rfl,rfl⟩,trivial⟩) (fun j r hj=>by omega) ?_ ?_
 ·intro i hlt hinv hd h0
  obtain ⟨r,hr⟩:=dW hlt
  cases h:decide (r.i=id) with
  | true =>
   repeat' (first|(simp only [cP,dC,hd,h0,h,Int.toNat_natCast,hr,Option.map_some,cK,cY,iR,iQ,zH,↓wA,↓wC,wB,reduceEqDiff,reduceIte])|(refine cM (by simp only [dX]; omega) ?_)|((first|apply cH|apply cI|apply cG)<;>intro h<;>try simp only [h]))
   all_goals rw [fN,qH hr h hinv]
  | false =>
   repeat' (first|(simp only [cP,dC,hd,h0,h,Int.toNat_natCast,hr,Option.map_some,cK,cY,iR,iQ,zH,↓wA,↓wC,wB,reduceEqDiff,reduceIte])|(refine cM (by simp only [dX]; omega) ?_)|((first|apply cH|apply cI|apply cG)<;>intro h<;>try simp only [h]))
   all_goals
    refine e7 (cV _ rfl ⟨⟨rfl,rfl⟩,⟨rfl,rfl⟩,⟨rfl,rfl⟩,trivial⟩) hlt fun j s hj hs=>?_
    by_cases e:j=i
    ·subst e; rw [hr] at hs; injection hs with hs; rw [<- hs]; exact h
    ·exact hinv j s (by omega) hs
 ·intro hinv hd
  repeat' (first|(simp only [cP,hd,cY,cK,iR,iQ,↓wA,↓wC,wB,reduceEqDiff,reduceIte])|((first|apply cH|apply cI|apply cG)<;>intro h<;>try simp only [h]))
  all_goals rw [fN,oW fun j r hj=>hinv j r (cQ hj) hj]
theorem wN {o:Off} {i:Nat} {x:Cs} (h:dN o=true) (hr:o.cs[i]?=some x):gB x=true:=by
 simp only [dN,Bool.and_eq_true] at h
 have:=List.all_eq_true.1 h.2 i (List.mem_range.2 (cQ hr))
 rw [aBT hr,Bool.and_eq_true] at this
 exact this.1
def aB0 (o:Off) (id:Int):List D:=if dN o=true then (if 0<=fN o.cs id then [.str (txt (o.cs[(fN o.cs id).toNat]?.getD ⟨0,0,0,[]⟩)),.bool true] else [.str [],.bool false]) else [.str [],.bool false]
theorem kZ (o:Off) (id:Int) (ho:o.ok0):Fn prog 113 [o.s,.int .i64 id] (fun rs=>rs=aB0 o id):=by
 have hV:=iZ o ho
 have hF:=zT o id ho
 unfold aB0
 cases hv:dN o with
 | false =>
  rw [hv] at hV
  refine cW aEg [] ?_
  dsimp only [aEg,aPM,rF,cS,cE,cR,c8]
  try simp only [wQ]
  repeat' (first|(simp only [aXW,aXX,↓dL,cK,↓wA,↓wC,wB,reduceEqDiff,reduceAdd,reduceIte,reduceCtorEq])|(refine cJ hF (by simp [dA,dK]) rfl ?_)|(refine cJ hV (by simp [dA,dK]) rfl ?_)|((first|apply cH|apply cI|apply cG)<;>intro h<;>try simp only [h]))
  all_goals simp
 | true =>
  rw [hv] at hV
  rcases lM o.cs id with ⟨hn,hn'⟩|⟨i,x,hi,hr,_⟩
  ·have hn2:=of_decide_eq_false hn'
   refine cW aEg [] ?_
   dsimp only [aEg,aPM,rF,cS,cE,cR,c8]
   try simp only [wQ]
   repeat' (first|(simp only [hn,aXW,aXX,↓dL,cK,↓wA,↓wC,wB,reduceEqDiff,reduceAdd,reduceIte,reduceCtorEq])|(refine cJ hF (by simp [dA,dK]) rfl ?_)|(refine cJ hV (by simp [dA,dK]) rfl ?_)|((first|apply cH|apply cI|apply cG)<;>intro h<;>try simp only [h]))
   all_goals simp [hn2]
  ·rw [hi] at hF ⊢
   have h0:(0:Int)<=(i:Int):=by omega
   have hn:decide ((i:Int) < 0)=false:=decide_eq_false (by omega)
   have hC:=aG1 x (wN hv hr)
   refine cW aEg [] ?_
   dsimp only [aEg,aPM,rF,cS,cE,cR,c8]
   try simp only [wQ]
   repeat' (first|(simp only [hn,h0,dC,Int.toNat_natCast,hr,Option.map_some,aXW,aXX,↓dL,↓lQ,cY,iR,iQ,cK,↓wA,↓wC,wB,reduceEqDiff,reduceAdd,reduceIte,reduceCtorEq])|(refine cJ hF (by simp [dA,dK]) rfl ?_)|(refine cJ hV (by simp [dA,dK]) rfl ?_)|(refine cJ hC (by simp [dA,dK]) rfl ?_)|((first|apply cH|apply cI|apply cG)<;>intro h<;>try simp only [h]))
   all_goals simp [hr]
theorem aAM (o:Off) (id:Int) (ho:o.ok0):Fn prog 127 [o.s,.int .i64 id] (fun rs=>rs=aB0 o id):=by
 have hV:=fS o ho
 have hF:=jU o id ho
 unfold aB0
 cases hv:dN o with
 | false =>
  rw [hv] at hV
  refine cW aDG [] ?_
  dsimp only [aDG,aOZ,rF,cS,cE,cR,c8]
  try simp only [wQ]
  repeat' (first|(simp only [aXW,aXX,↓dL,cK,↓wA,↓wC,wB,reduceEqDiff,reduceAdd,reduceIte,reduceCtorEq])|(refine cJ hF (by simp [dA,dK]) rfl ?_)|(refine cJ hV (by simp [dA,dK]) rfl ?_)|((first|apply cH|apply cI|apply cG)<;>intro h<;>try simp only [h]))
  all_goals simp
 | true =>
  rw [hv] at hV
  rcases lM o.cs id with ⟨hn,hn'⟩|⟨i,x,hi,hr,_⟩
  ·have hn2:=of_decide_eq_false hn'
   refine cW aDG [] ?_
   dsimp only [aDG,aOZ,rF,cS,cE,cR,c8]
   try simp only [wQ]
   repeat' (first|(simp only [hn,aXW,aXX,↓dL,cK,↓wA,↓wC,wB,reduceEqDiff,reduceAdd,reduceIte,reduceCtorEq])|(refine cJ hF (by simp [dA,dK]) rfl ?_)|(refine cJ hV (by simp [dA,dK]) rfl ?_)|((first|apply cH|apply cI|apply cG)<;>intro h<;>try simp only [h]))
   all_goals simp [hn2]
  ·rw [hi] at hF ⊢
   have h0:(0:Int)<=(i:Int):=by omega
   have hn:decide ((i:Int) < 0)=false:=decide_eq_false (by omega)
   have hC:=aHM x (wN hv hr)
   refine cW aDG [] ?_
   dsimp only [aDG,aOZ,rF,cS,cE,cR,c8]
   try simp only [wQ]
   repeat' (first|(simp only [hn,h0,dC,Int.toNat_natCast,hr,Option.map_some,aXW,aXX,↓dL,↓lQ,cY,iR,iQ,cK,↓wA,↓wC,wB,reduceEqDiff,reduceAdd,reduceIte,reduceCtorEq])|(refine cJ hF (by simp [dA,dK]) rfl ?_)|(refine cJ hV (by simp [dA,dK]) rfl ?_)|(refine cJ hC (by simp [dA,dK]) rfl ?_)|((first|apply cH|apply cI|apply cG)<;>intro h<;>try simp only [h]))
   all_goals simp [hr]
theorem aVM {n:Int}:gG [] (iD n)=some (iD n):=rfl
theorem aWm {n:Int}:fB [] (iD n)=0:=rfl
theorem aMN {n:Int}:(iD n).size=1:=rfl
end Go.Pe.Tryz
namespace Go.Pe.Tryz
open Nat (reduceEqDiff reduceAdd reduceSub reduceLT)
open Go.Proofs.Tryz Go.Sort
end Go.Pe.Tryz
namespace Go.Pe.Tryz
open Nat (reduceEqDiff reduceAdd reduceSub reduceLT)
open Go.Proofs.Tryz
theorem aBc {x:Cs} {dh:D} {k:Int}:j7 [2] (x.p dh) (.int .i64 k)=Cs.p { x with d:=k } dh:=rfl
theorem iB {x:Cs} {dh u:D}:j7 [3] (x.p dh) u=x.p u:=rfl
theorem xH {x:Cs} {dh:D}:fB [0] (x.p dh)=0:=rfl
theorem aBe {x:Cs} {dh:D}:fB [2] (x.p dh)=2:=rfl
theorem jL {x:Cs} {dh:D}:fB [3] (x.p dh)=3:=rfl
theorem xF {x:Cs} {dh:D}:gG [0] (x.p dh)=some (.int .i64 x.i):=rfl
theorem aAY {x:Cs} {dh:D}:gG [2] (x.p dh)=some (.int .i64 x.d):=rfl
theorem fY {x:Cs} {dh:D}:gG [3] (x.p dh)=some dh:=rfl
theorem kK:∀ (xs:D) (i:Nat) (y z:D),(xs.setN i y).setN i z=xs.setN i z:=by
 intro xs
 induction xs with
 | cons a xs ih1 ih2=>intro i y z; cases i with
  | zero=>rfl
  | succ i=>simp only [D.setN]; rw [ih2]
 | _=>intro i y z; cases i<;>rfl
theorem aDo {xs:List Cs} {i:Nat} {x:Cs} (hr:xs[i]?=some x):xs.drop i=x :: xs.drop (i + 1):=by
 have hi:=cQ hr
 rw [List.drop_eq_getElem_cons hi]
 rw [List.getElem?_eq_getElem hi] at hr
 injection hr with hr
 rw [hr]
theorem x8 {x:Off} {K:SV->Prop}:dD 0 0 (.d (.ptr x.s)) K=K (.d (.ptr (.int .i64 x.day))):=by simp [Off.s,dQ,dD,D.pre,D.nth]
def lO (p:Cs->Bool) (xs:List Cs):List Int:=(xs.filter p).map Cs.i
theorem sN {p:Cs->Bool} {xs:List Cs} {i:Nat} {x:Cs} (hr:xs[i]?=some x):lO p (xs.take (i + 1))=lO p (xs.take i) ++ (if p x=true then [x.i] else []):=by
 unfold lO
 rw [fG hr,List.filter_append,List.map_append]
 cases h:p x<;>simp [h]
theorem qP (p:Cs->Bool) (xs:List Cs):(lO p xs).length<=xs.length:=by
 unfold lO
 rw [List.length_map]
 exact List.length_filter_le _ _
theorem jR (V:List Int) (n:Int):(dl iD V).app (D.cons (.int .i64 n) .nil)=dl iD (V ++ [n]):=hZ (f:=iD) V n
theorem xA (p:Cs->Bool) (g:Nat) (c:D) (o:Off) (ho:o.ok0) (hc:c.caps=true) (he:fX prog.P g=true) (hp:∀ x∈o.cs,Fn prog g (x.s :: c.list) (fun rs=>rs=[.bool (p x)])):Fn prog 149 [o.s,.clo g c] (fun rs=>rs=[.sl true 1 (dl iD (lO p o.cs))]):=by
 have hlen:=ho.1.1
 refine cW aQ2 [] ?_
 dsimp only [aQ2,aVd,rF,cS,cE,cR,c8]
 try simp only [wQ]
 repeat' (first|(simp only [aXX,cK,cP,cY,iR,iQ,↓wA,↓wC,wB,reduceEqDiff,reduceAdd,reduceIte,reduceCtorEq])|((first|apply cH|apply cI|apply cG)<;>intro h<;>try simp only [h]))
 refine tL [(5,1)] o.cs.length (fun i:Nat=>⟨[(1,.d (.clo g c)),(5,.own 1),(9,.d (.sl false 4 (dl Cs.s o.cs))),(10,.d (.int .i64 o.cs.length)),(11,.d (.int .i64 i))],[.box o.s,.val (.sl true 1 (dl iD (lO p (o.cs.take i))))]⟩) (fun _=>True) ⟨rfl,trivial⟩ ?_ trivial ?_ ?_
 ·exact (cV _ rfl ⟨⟨rfl,rfl⟩,⟨rfl,rfl⟩,⟨rfl,rfl⟩,⟨rfl,rfl⟩,⟨rfl,rfl⟩,trivial⟩)
 ·intro i hlt _ hd h0
  obtain ⟨x,hr⟩:=dW hlt
  have hW:=hp x (List.mem_of_getElem? hr)
  have hsn:=sN (p:=p) hr
  have hvl:=qP p (o.cs.take i)
  rw [List.length_take,Nat.min_eq_left (by omega)] at hvl
  repeat' (first|(simp only [hd,h0,dC,Int.toNat_natCast,hr,Option.map_some,cK,↓lQ,aX3,aX6,↓wA,↓wC,wB,reduceEqDiff,reduceAdd,reduceIte])|((first|apply cH|apply cI|apply cG)<;>intro h<;>try simp only [h]))
  refine uV (ds:=[x.s]) hW he hc (by simp [dA,dK]) rfl ?_
  cases hw:p x with
  | false =>
   rw [hw] at hsn
   repeat' (first|(simp only [↓wA,↓wC,wB,reduceEqDiff,reduceAdd,reduceIte])|(with_reducible refine cM ?_ ?_; focus (simp only [dX]; omega))|((first|apply cH|apply cI|apply cG)<;>intro h<;>try simp only [h]))
   refine ⟨i + 1,?_,by omega,by omega⟩
   rw [hsn]
   simp only [Bool.false_eq_true,if_false,List.append_nil]
   exact (cV _ rfl ⟨⟨rfl,rfl⟩,⟨rfl,rfl⟩,⟨rfl,rfl⟩,⟨rfl,rfl⟩,⟨rfl,rfl⟩,trivial⟩)
  | true =>
   rw [hw] at hsn
   repeat' (first|(simp only [cP,cK,aBd,aA2,jR,↓wA,↓wC,wB,reduceEqDiff,reduceAdd,reduceIte,Nat.reduceBEq])|(with_reducible refine cM ?_ ?_; focus (simp only [dX]; omega))|(with_reducible refine cO ?_ ?_; focus omega)|(with_reducible refine cO ?_ ?_; focus (simp; done))|((first|apply cH|apply cI|apply cG)<;>intro h<;>try simp only [h]))
   refine ⟨i + 1,?_,by omega,by omega⟩
   rw [hsn]
   simp only [if_true]
   exact (cV _ rfl ⟨⟨rfl,rfl⟩,⟨rfl,rfl⟩,⟨rfl,rfl⟩,⟨rfl,rfl⟩,⟨rfl,rfl⟩,trivial⟩)
 ·intro _ hd
  repeat' (first|(simp only [hd,List.take_length,↓wA,↓wC,wB,reduceEqDiff,reduceIte])|((first|apply cH|apply cI|apply cG)<;>intro h<;>try simp only [h]))
def qW (o:Off) (x:Cs):Bool:=decide (x.d<=o.day)
def aAS (b:Bool) (p:Cs->Bool) (o:Off):List D:=if dN o=true then [.sl b 1 (dl iD (lO p o.cs)),.bool true] else [.sl true 1 .nil,.bool false]
theorem aKh (o:Off) (x:Cs):Fn prog 153 [x.s,.ptr o.s] (fun rs=>rs=[.bool (qW o x)]):=by
 refine cW aQW [] ?_
 dsimp only [aQW,aT8,rF,cS,cE,cR,c8]
 try simp only [wQ]
 repeat' (first|(simp only [cK,aX3,nW,nY,x8,↓wA,↓wC,wB,reduceEqDiff,reduceAdd,reduceIte,reduceCtorEq])|((first|apply cH|apply cI|apply cG)<;>intro h<;>try simp only [h]))
 all_goals rfl
theorem aHy (o:Off) (ho:o.ok0):Fn prog 110 [o.s] (fun rs=>rs=aAS true (qW o) o):=by
 have hV:=iZ o ho
 have h:=xA (qW o) 153 (.cons (.ptr o.s) .nil) o ho rfl aVq (fun x _=>aKh o x)
 unfold aAS
 cases hv:dN o with
 | false =>
  rw [hv] at hV
  refine cW aJc [] ?_
  dsimp only [aJc,aSO,rF,cS,cE,cR,c8]
  try simp only [wQ]
  repeat' (first|(simp only [aXW,aXX,↓dL,cK,↓wA,↓wC,wB,reduceEqDiff,reduceIte,reduceCtorEq])|(refine cJ hV (by simp [dA,dK]) rfl ?_)|((first|apply cH|apply cI|apply cG)<;>intro h<;>try simp only [h]))
  all_goals (refine l0 1 ?_; simp)
 | true =>
  rw [hv] at hV
  refine cW aJc [[1,1,0]] ?_
  dsimp only [aJc,aSO,rF,cS,cE,cR,c8]
  try simp only [wQ]
  repeat' (first|(simp only [aXW,aXX,↓dL,cK,↓wA,↓wC,wB,reduceEqDiff,reduceIte,reduceCtorEq])|(refine cJ hV (by simp [dA,dK]) rfl ?_)|((first|apply cH|apply cI|apply cG)<;>intro h<;>try simp only [h]))
  refine dB (gJ 0 rfl) ?_
  repeat' (first|(simp only [↓dL,aX1,↓wA,↓wC,wB,cU,cT,reduceEqDiff,reduceIte])|(refine cJ h (by simp [dA,dK]) rfl ?_)|((first|apply cH|apply cI|apply cG)<;>intro h<;>try simp only [h]))
  all_goals trace_state
def pS (o:Off) (x:Cs):Bool:=decide (x.d<=o.day) && decide (x.a=3) && decide (0 < (x.h.length:Int))
theorem aKi (o:Off) (x:Cs):Fn prog 154 [x.s,.ptr o.s] (fun rs=>rs=[.bool (pS o x)]):=by
 unfold pS
 cases h1:decide (x.d<=o.day)<;>cases h2:decide (x.a=3)
 all_goals
  refine cW aRv [] ?_
  dsimp only [aRv,aTG,rF,cS,cE,cR,c8]
  try simp only [wQ]
  repeat' (first|(simp only [h1,h2,cP,dE,cK,aX3,rW,sE,nW,nY,uT,u4,x8,↓wA,↓wC,wB,reduceEqDiff,reduceAdd,reduceIte,reduceCtorEq])|((first|apply cH|apply cI|apply cG)<;>intro h<;>try simp only [h]))
  all_goals simp
theorem aHv (o:Off) (ho:o.ok0):Fn prog 111 [o.s] (fun rs=>rs=aAS true (pS o) o):=by
 have hV:=iZ o ho
 have h:=xA (pS o) 154 (.cons (.ptr o.s) .nil) o ho rfl aTO (fun x _=>aKi o x)
 unfold aAS
 cases hv:dN o with
 | false =>
  rw [hv] at hV
  refine cW aIG [] ?_
  dsimp only [aIG,aSW,rF,cS,cE,cR,c8]
  try simp only [wQ]
  repeat' (first|(simp only [aXW,aXX,↓dL,cK,↓wA,↓wC,wB,reduceEqDiff,reduceIte,reduceCtorEq])|(refine cJ hV (by simp [dA,dK]) rfl ?_)|((first|apply cH|apply cI|apply cG)<;>intro h<;>try simp only [h]))
  all_goals (refine l0 1 ?_; simp)
 | true =>
  rw [hv] at hV
  refine cW aIG [[1,1,0]] ?_
  dsimp only [aIG,aSW,rF,cS,cE,cR,c8]
  try simp only [wQ]
  repeat' (first|(simp only [aXW,aXX,↓dL,cK,↓wA,↓wC,wB,reduceEqDiff,reduceIte,reduceCtorEq])|(refine cJ hV (by simp [dA,dK]) rfl ?_)|((first|apply cH|apply cI|apply cG)<;>intro h<;>try simp only [h]))
  refine dB (gJ 0 rfl) ?_
  repeat' (first|(simp only [↓dL,aX1,↓wA,↓wC,wB,cU,cT,reduceEqDiff,reduceIte])|(refine cJ h (by simp [dA,dK]) rfl ?_)|((first|apply cH|apply cI|apply cG)<;>intro h<;>try simp only [h]))
  all_goals trace_state
def aBZ (n:Int) (x:Cs):Bool:=x.h.contains n
def aLc (n:Int) (o:Off):List D:=if dN o=true/\c6 n 1 9=true then [.sl true 1 (dl iD (lO (aBZ n) o.cs)),.bool true] else [.sl true 1 .nil,.bool false]
theorem aJV (n:Int):Fn prog 140 [.int .i64 n] (fun rs=>rs=[.bool (c6 n 1 9)]):=by
 refine cW aIO [] ?_
 dsimp only [aIO,aSN,rF,cS,cE,cR,c8]
 try simp only [wQ]
 repeat' (first|(simp only [↓wA,↓wC,wB,reduceEqDiff,reduceIte,reduceCtorEq])|(refine cJ (eT _ _ _) rfl rfl ?_)|(refine cL (eT _ _ _) rfl rfl ?_)|((first|apply cH|apply cI|apply cG)<;>intro h<;>try simp only [h]))
theorem aKg (n:Int) (x:Cs) (hx:x.ok0):Fn prog 150 [x.s,.ptr (.int .i64 n)] (fun rs=>rs=[.bool (aBZ n x)]):=by
 have h:=xJ x.h n hx
 refine cW aRl [] ?_
 dsimp only [aRl,aUs,rF,cS,cE,cR,c8]
 try simp only [wQ]
 repeat' (first|(simp only [dE,cK,aX3,uT,u4,↓wA,↓wC,wB,reduceEqDiff,reduceAdd,reduceIte,reduceCtorEq])|(refine cJ (h) rfl rfl ?_)|(refine cL (h) rfl rfl ?_)|((first|apply cH|apply cI|apply cG)<;>intro h<;>try simp only [h]))
 all_goals rfl
theorem aGr (o:Off) (n:Int) (ho:o.ok0):Fn prog 108 [o.s,.int .i64 n] (fun rs=>rs=aLc n o):=by
 have hV:=iZ o ho
 have hN:=aJV n
 have h:=xA (aBZ n) 150 (.cons (.ptr (.int .i64 n)) .nil) o ho rfl aV3 (fun x hx=>aKg n x (ho.1.2 x hx))
 unfold aLc
 cases hv:dN o with
 | false =>
  rw [hv] at hV
  refine cW aDq [] ?_
  dsimp only [aDq,aNS,rF,cS,cE,cR,c8]
  try simp only [wQ]
  repeat' (first|(simp only [aXW,aXX,↓dL,cK,↓wA,↓wC,wB,reduceEqDiff,reduceAdd,reduceIte,reduceCtorEq])|(refine cJ hV (by simp [dA,dK]) rfl ?_)|((first|apply cH|apply cI|apply cG)<;>intro h<;>try simp only [h]))
  all_goals (refine l0 1 ?_; simp)
 | true =>
  rw [hv] at hV
  cases hn:c6 n 1 9 with
  | false =>
   rw [hn] at hN
   refine cW aDq [] ?_
   dsimp only [aDq,aNS,rF,cS,cE,cR,c8]
   try simp only [wQ]
   repeat' (first|(simp only [aXW,aXX,↓dL,cK,↓wA,↓wC,wB,reduceEqDiff,reduceAdd,reduceIte,reduceCtorEq])|(refine cJ (hN) rfl rfl ?_)|(refine cL (hN) rfl rfl ?_)|(refine cJ hV (by simp [dA,dK]) rfl ?_)|((first|apply cH|apply cI|apply cG)<;>intro h<;>try simp only [h]))
   all_goals (refine l0 1 ?_; simp)
  | true =>
   rw [hn] at hN
   refine cW aDq [[1,1,0]] ?_
   dsimp only [aDq,aNS,rF,cS,cE,cR,c8]
   try simp only [wQ]
   repeat' (first|(simp only [aXW,aXX,↓dL,cK,↓wA,↓wC,wB,reduceEqDiff,reduceAdd,reduceIte,reduceCtorEq])|(refine cJ (hN) rfl rfl ?_)|(refine cL (hN) rfl rfl ?_)|(refine cJ hV (by simp [dA,dK]) rfl ?_)|((first|apply cH|apply cI|apply cG)<;>intro h<;>try simp only [h]))
   refine dB (gJ 1 rfl) ?_
   repeat' (first|(simp only [aXW,↓dL,cK,D.unown,↓wA,↓wC,wB,cU,cT,reduceEqDiff,reduceAdd,reduceIte,reduceCtorEq])|(refine cJ h (by simp [dA,dK]) rfl ?_)|((first|apply cH|apply cI|apply cG)<;>intro h<;>try simp only [h]))
   all_goals simp
theorem aH6 (o:Off) (ho:o.ok0):Fn prog 90 [o.s] (fun rs=>rs=aAS true (qW o) o):=by
 have hlen:=ho.1.1
 have hV:=fS o ho
 unfold aAS
 cases hv:dN o with
 | false =>
  rw [hv] at hV
  refine cW aQo [] ?_
  dsimp only [aQo,m90,rF,cS,cE,cR,c8]
  try simp only [wQ]
  repeat' (first|(simp only [aXW,aXX,↓dL,cK,↓wA,↓wC,wB,reduceEqDiff,reduceAdd,reduceIte,reduceCtorEq])|(refine cJ hV (by simp [dA,dK]) rfl ?_)|((first|apply cH|apply cI|apply cG)<;>intro h<;>try simp only [h]))
  all_goals simp
 | true =>
  rw [hv] at hV
  refine cW aQo [] ?_
  dsimp only [aQo,m90,rF,cS,cE,cR,c8]
  try simp only [wQ]
  repeat' (first|(simp only [aXW,aXX,↓dL,cK,↓wA,↓wC,wB,reduceEqDiff,reduceAdd,reduceIte,reduceCtorEq])|(refine cJ hV (by simp [dA,dK]) rfl ?_)|((first|apply cH|apply cI|apply cG)<;>intro h<;>try simp only [h]))
  refine dV o.cs.length (fun i:Nat=>⟨[(1,.ptr 0 0 []),(4,.own 1),(5,.d (.int .i64 i))],[.box o.s,.val (.sl true 1 (dl iD (lO (qW o) (o.cs.take i))))]⟩) (fun _=>True) (cV _ rfl ⟨⟨rfl,rfl⟩,⟨rfl,rfl⟩,⟨rfl,rfl⟩,trivial⟩) trivial ?_ ?_
  ·intro i hlt _ hd h0
   obtain ⟨x,hr⟩:=dW hlt
   have hxo:=ho.1.2 x (List.mem_of_getElem? hr)
   have hsn:=sN (p:=qW o) hr
   have hvl:=qP (qW o) (o.cs.take i)
   rw [List.length_take,Nat.min_eq_left (by omega)] at hvl
   skip
   cases hw:qW o x with
   | false =>
    rw [hw] at hsn
    unfold qW at hw; have h1:=hw; have h2:=hw; have h3:=hw
    repeat' (first|(simp only [cP,hd,h0,dC,Int.toNat_natCast,hr,Option.map_some,cK,cY,sO,sM,iR,iQ,aE2,h1,↓wA,↓wC,wB,reduceEqDiff,reduceIte])|(refine cJ (hV) rfl rfl ?_)|(refine cL (hV) rfl rfl ?_)|(with_reducible refine cM ?_ ?_; focus (simp only [dX]; omega))|((first|apply cH|apply cI|apply cG)<;>intro h<;>try simp only [h]))
    all_goals first
     |(refine ⟨i + 1,?_,by omega,by omega⟩
       rw [hsn]
       simp only [Bool.false_eq_true,if_false,List.append_nil]
       exact (cV _ rfl ⟨⟨rfl,rfl⟩,⟨rfl,rfl⟩,⟨rfl,rfl⟩,trivial⟩))
     |(exfalso; simp_all; done)
   | true =>
    rw [hw] at hsn
    unfold qW at hw; have h1:=hw; have h2:=hw; have h3:=hw
    repeat' (first|(simp only [cP,hd,h0,dC,Int.toNat_natCast,hr,Option.map_some,cK,cY,sO,sM,iR,iQ,zH,aE2,jR,h1,↓wA,↓wC,wB,reduceEqDiff,reduceAdd,reduceIte,Nat.reduceBEq])|(refine cJ (hV) rfl rfl ?_)|(refine cL (hV) rfl rfl ?_)|(with_reducible refine cM ?_ ?_; focus (simp only [dX]; omega))|(with_reducible refine cO ?_ ?_; focus omega)|(with_reducible refine cO ?_ ?_; focus (simp; done))|((first|apply cH|apply cI|apply cG)<;>intro h<;>try simp only [h]))
    all_goals first
     |(refine ⟨i + 1,?_,by omega,by omega⟩
       rw [hsn]
       simp only [if_true]
       exact (cV _ rfl ⟨⟨rfl,rfl⟩,⟨rfl,rfl⟩,⟨rfl,rfl⟩,trivial⟩))
     |(exfalso; simp_all; done)
  ·intro _ hd
   repeat' (first|(simp only [hd,cP,List.take_length,cY,iR,iQ,cK,↓wA,↓wC,wB,reduceEqDiff,reduceIte])|((first|apply cH|apply cI|apply cG)<;>intro h<;>try simp only [h]))
theorem aCg (o:Off) (ho:o.ok0):Fn prog 92 [o.s] (fun rs=>rs=aAS true (pS o) o):=by
 have hlen:=ho.1.1
 have hV:=fS o ho
 unfold aAS
 cases hv:dN o with
 | false =>
  rw [hv] at hV
  refine cW aOO [] ?_
  dsimp only [aOO,m92,rF,cS,cE,cR,c8]
  try simp only [wQ]
  repeat' (first|(simp only [aXW,aXX,↓dL,cK,↓wA,↓wC,wB,reduceEqDiff,reduceAdd,reduceIte,reduceCtorEq])|(refine cJ hV (by simp [dA,dK]) rfl ?_)|((first|apply cH|apply cI|apply cG)<;>intro h<;>try simp only [h]))
  all_goals simp
 | true =>
  rw [hv] at hV
  refine cW aOO [] ?_
  dsimp only [aOO,m92,rF,cS,cE,cR,c8]
  try simp only [wQ]
  repeat' (first|(simp only [aXW,aXX,↓dL,cK,↓wA,↓wC,wB,reduceEqDiff,reduceAdd,reduceIte,reduceCtorEq])|(refine cJ hV (by simp [dA,dK]) rfl ?_)|((first|apply cH|apply cI|apply cG)<;>intro h<;>try simp only [h]))
  refine dV o.cs.length (fun i:Nat=>⟨[(1,.ptr 0 0 []),(4,.own 1),(5,.d (.int .i64 i))],[.box o.s,.val (.sl true 1 (dl iD (lO (pS o) (o.cs.take i))))]⟩) (fun _=>True) (cV _ rfl ⟨⟨rfl,rfl⟩,⟨rfl,rfl⟩,⟨rfl,rfl⟩,trivial⟩) trivial ?_ ?_
  ·intro i hlt _ hd h0
   obtain ⟨x,hr⟩:=dW hlt
   have hxo:=ho.1.2 x (List.mem_of_getElem? hr)
   have hsn:=sN (p:=pS o) hr
   have hvl:=qP (pS o) (o.cs.take i)
   rw [List.length_take,Nat.min_eq_left (by omega)] at hvl
   skip
   cases hw:pS o x with
   | false =>
    rw [hw] at hsn
    unfold pS at hw; cases h1:decide (x.d<=o.day)<;>cases h2:decide (x.a=3)<;>cases h3:decide (0 < (x.h.length:Int))<;>simp only [h1,h2,h3,Bool.and_true,Bool.and_false,Bool.true_eq_false] at hw
    repeat' (first|(simp only [cP,hd,h0,dC,Int.toNat_natCast,hr,Option.map_some,cK,cY,sO,sM,iR,iQ,↓lQ,dE,rW,sE,nW,nY,uT,u4,aX3,aX6,h1,h2,h3,↓wA,↓wC,wB,reduceEqDiff,reduceAdd,reduceIte])|(refine cJ (hV) rfl rfl ?_)|(refine cL (hV) rfl rfl ?_)|(with_reducible refine cM ?_ ?_; focus (simp only [dX]; omega))|((first|apply cH|apply cI|apply cG)<;>intro h<;>try simp only [h]))
    all_goals first
     |(refine ⟨i + 1,?_,by omega,by omega⟩
       rw [hsn]
       simp only [Bool.false_eq_true,if_false,List.append_nil]
       exact (cV _ rfl ⟨⟨rfl,rfl⟩,⟨rfl,rfl⟩,⟨rfl,rfl⟩,trivial⟩))
     |(exfalso; simp_all; done)
   | true =>
    rw [hw] at hsn
    unfold pS at hw; cases h1:decide (x.d<=o.day)<;>cases h2:decide (x.a=3)<;>cases h3:decide (0 < (x.h.length:Int))<;>simp only [h1,h2,h3,Bool.and_true,Bool.and_false,Bool.false_eq_true] at hw
    repeat' (first|(simp only [cP,hd,h0,dC,Int.toNat_natCast,hr,Option.map_some,cK,cY,sO,sM,iR,iQ,↓lQ,dE,aBd,aA2,rW,sE,nW,nY,uT,u4,aX3,aX6,jR,h1,h2,h3,↓wA,↓wC,wB,reduceEqDiff,reduceAdd,reduceIte,Nat.reduceBEq])|(refine cJ (hV) rfl rfl ?_)|(refine cL (hV) rfl rfl ?_)|(with_reducible refine cM ?_ ?_; focus (simp only [dX]; omega))|(with_reducible refine cO ?_ ?_; focus omega)|(with_reducible refine cO ?_ ?_; focus (simp; done))|((first|apply cH|apply cI|apply cG)<;>intro h<;>try simp only [h]))
    all_goals first
     |(refine ⟨i + 1,?_,by omega,by omega⟩
       rw [hsn]
       simp only [if_true]
       exact (cV _ rfl ⟨⟨rfl,rfl⟩,⟨rfl,rfl⟩,⟨rfl,rfl⟩,trivial⟩))
     |(exfalso; simp_all; done)
  ·intro _ hd
   repeat' (first|(simp only [hd,cP,List.take_length,cY,iR,iQ,cK,↓wA,↓wC,wB,reduceEqDiff,reduceIte])|((first|apply cH|apply cI|apply cG)<;>intro h<;>try simp only [h]))
theorem aGG (o:Off) (n:Int) (ho:o.ok0):Fn prog 94 [o.s,.int .i64 n] (fun rs=>rs=aLc n o):=by
 have hlen:=ho.1.1
 have hV:=fS o ho
 have hN:=iA n 1 9
 unfold aLc
 cases hv:dN o with
 | false =>
  rw [hv] at hV
  refine cW aKn [] ?_
  dsimp only [aKn,m94,rF,cS,cE,cR,c8]
  try simp only [wQ]
  repeat' (first|(simp only [aXW,aXX,↓dL,cK,↓wA,↓wC,wB,reduceEqDiff,reduceAdd,reduceIte,reduceCtorEq])|(refine cJ hV (by simp [dA,dK]) rfl ?_)|((first|apply cH|apply cI|apply cG)<;>intro h<;>try simp only [h]))
  all_goals simp
 | true =>
  rw [hv] at hV
  cases hn:c6 n 1 9 with
  | false =>
   rw [hn] at hN
   refine cW aKn [] ?_
   dsimp only [aKn,m94,rF,cS,cE,cR,c8]
   try simp only [wQ]
   repeat' (first|(simp only [aXW,aXX,↓dL,cK,↓wA,↓wC,wB,reduceEqDiff,reduceAdd,reduceIte,reduceCtorEq])|(refine cJ (hN) rfl rfl ?_)|(refine cL (hN) rfl rfl ?_)|(refine cJ hV (by simp [dA,dK]) rfl ?_)|((first|apply cH|apply cI|apply cG)<;>intro h<;>try simp only [h]))
   all_goals simp
  | true =>
   rw [hn] at hN
   refine cW aKn [] ?_
   dsimp only [aKn,m94,rF,cS,cE,cR,c8]
   try simp only [wQ]
   repeat' (first|(simp only [aXW,aXX,↓dL,cK,↓wA,↓wC,wB,reduceEqDiff,reduceAdd,reduceIte,reduceCtorEq])|(refine cJ (hN) rfl rfl ?_)|(refine cL (hN) rfl rfl ?_)|(refine cJ hV (by simp [dA,dK]) rfl ?_)|((first|apply cH|apply cI|apply cG)<;>intro h<;>try simp only [h]))
   refine dV o.cs.length (fun i:Nat=>⟨[(1,.d (.int .i64 n)),(2,.ptr 0 0 []),(6,.own 1),(7,.d (.int .i64 i))],[.box o.s,.val (.sl true 1 (dl iD (lO (aBZ n) (o.cs.take i))))]⟩) (fun _=>True) (cV _ rfl ⟨⟨rfl,rfl⟩,⟨rfl,rfl⟩,⟨rfl,rfl⟩,⟨rfl,rfl⟩,trivial⟩) trivial ?_ ?_
   ·intro i hlt _ hd h0
    obtain ⟨x,hr⟩:=dW hlt
    have hxo:=ho.1.2 x (List.mem_of_getElem? hr)
    have hsn:=sN (p:=aBZ n) hr
    have hvl:=qP (aBZ n) (o.cs.take i)
    rw [List.length_take,Nat.min_eq_left (by omega)] at hvl
    have hHas:=aGp x.h n hxo
    cases hw:aBZ n x with
    | false =>
     rw [hw] at hsn
     unfold aBZ at hw; rw [hw] at hHas; have h1:=hw; have h2:=hw; have h3:=hw
     repeat' (first|(simp only [cP,hd,h0,dC,Int.toNat_natCast,hr,Option.map_some,cK,cY,iR,iQ,dE,aHD,↓wA,↓wC,wB,reduceEqDiff,reduceAdd,reduceIte])|(refine cJ (hHas) rfl rfl ?_)|(refine cL (hHas) rfl rfl ?_)|(with_reducible refine cM ?_ ?_; focus (simp only [dX]; omega))|((first|apply cH|apply cI|apply cG)<;>intro h<;>try simp only [h]))
     all_goals first
      |(refine ⟨i + 1,?_,by omega,by omega⟩
        rw [hsn]
        simp only [Bool.false_eq_true,if_false,List.append_nil]
        exact (cV _ rfl ⟨⟨rfl,rfl⟩,⟨rfl,rfl⟩,⟨rfl,rfl⟩,⟨rfl,rfl⟩,trivial⟩))
      |(exfalso; simp_all; done)
    | true =>
     rw [hw] at hsn
     unfold aBZ at hw; rw [hw] at hHas; have h1:=hw; have h2:=hw; have h3:=hw
     repeat' (first|(simp only [cP,hd,h0,dC,Int.toNat_natCast,hr,Option.map_some,cK,cY,iR,iQ,dE,zH,aHD,jR,↓wA,↓wC,wB,reduceEqDiff,reduceAdd,reduceIte,Nat.reduceBEq])|(refine cJ (hHas) rfl rfl ?_)|(refine cL (hHas) rfl rfl ?_)|(with_reducible refine cM ?_ ?_; focus (simp only [dX]; omega))|(with_reducible refine cO ?_ ?_; focus omega)|(with_reducible refine cO ?_ ?_; focus (simp; done))|((first|apply cH|apply cI|apply cG)<;>intro h<;>try simp only [h]))
     all_goals first
      |(refine ⟨i + 1,?_,by omega,by omega⟩
        rw [hsn]
        simp only [if_true]
        exact (cV _ rfl ⟨⟨rfl,rfl⟩,⟨rfl,rfl⟩,⟨rfl,rfl⟩,⟨rfl,rfl⟩,trivial⟩))
      |(exfalso; simp_all; done)
   ·intro _ hd
    repeat' (first|(simp only [hd,cP,List.take_length,cY,iR,iQ,cK,↓wA,↓wC,wB,reduceEqDiff,reduceIte])|((first|apply cH|apply cI|apply cG)<;>intro h<;>try simp only [h]))
   all_goals simp
def jE (s:List UInt8):Int:=ck (108 :: s)
def sX (a b:Int):Int:=ck (110 :: (Lib.itoa a ++ 44 :: Lib.itoa b))
def fW:List Int->List Int
 | a :: b :: r=>sX a b :: fW r
 | l=>l
def gA (n:Int):Prop:=0<=n/\n < 999979
theorem kY {n:Int} (h:gA n):dX .i64 n:=by
 obtain ⟨h1,h2⟩:=h
 simp only [dX]; omega
theorem aG5 (s:List UInt8):gA (jE s):=aBL _
theorem aLl (a b:Int):gA (sX a b):=aBL _
theorem uY:∀ v:List Int,(∀ n∈v,gA n)->∀ n∈fW v,gA n
 | [],h=>h
 | [a],h=>h
 | a :: b :: r,h=>by
  intro n hn
  rcases List.mem_cons.1 hn with rfl|hn
  ·exact aLl a b
  ·exact uY r (fun m hm=>h m (List.mem_cons_of_mem _ (List.mem_cons_of_mem _ hm))) n hn
theorem mN:∀ v:List Int,(fW v).length=(v.length + 1) / 2
 | []=>by simp [fW]
 | [a]=>by simp [fW]
 | a :: b :: r=>by
  have:=mN r
  simp only [fW,List.length_cons]
  omega
theorem w5:∀ (xs ys:List Int),xs.length % 2=0->fW (xs ++ ys)=fW xs ++ fW ys
 | [],ys,_=>rfl
 | [a],ys,h=>by simp at h
 | a :: b :: r,ys,h=>by
  have:=w5 r ys (by simp only [List.length_cons] at h; omega)
  simp only [List.cons_append,fW,this]
theorem aHS {v:List Int} {i:Nat} {a b:Int} (he:i % 2=0) (ha:v[i]?=some a) (hb:v[i + 1]?=some b):fW (v.take (i + 2))=fW (v.take i) ++ [sX a b]:=by
 have hi:=cQ ha
 rw [fG hb,fG ha,List.append_assoc,w5 _ _ (by rw [List.length_take,Nat.min_eq_left (by omega)]; exact he)]
 rfl
theorem aHm {v:List Int} {i:Nat} {a:Int} (he:i % 2=0) (ha:v[i]?=some a) (hb:v.length<=i + 1):fW (v.take (i + 2))=fW (v.take i) ++ [a]:=by
 have hi:=cQ ha
 have e:v.take (i + 2)=v.take (i + 1):=by rw [List.take_of_length_le (by omega),List.take_of_length_le (by omega)]
 rw [e,fG ha,w5 _ _ (by rw [List.length_take,Nat.min_eq_left (by omega)]; exact he)]
 rfl
theorem yR (s:List UInt8) (hl:s.length<=4000):Fn prog 245 [.str s] (fun rs=>rs=[.int .i64 (ck s),.bool true]):=by
 have h:=jZ s (by rw [d5]; omega)
 have hd:decide ((s.length:Int) > 4000)=false:=decide_eq_false (by omega)
 have hd':decide ((4000:Int) < (s.length:Int))=false:=decide_eq_false (by omega)
 refine cW aRB [] ?_
 dsimp only [aRB,aVl,rF,cS,cE,cR,c8]
 try simp only [wQ]
 repeat' (first|(simp only [hd,↓wA,↓wC,wB,reduceEqDiff,reduceIte,reduceCtorEq])|(refine cJ (h) rfl rfl ?_)|(refine cL (h) rfl rfl ?_)|((first|apply cH|apply cI|apply cG)<;>intro h<;>try simp only [h]))
theorem aEY (s:List UInt8) (hl:s.length<=100):Fn prog 219 [.str s] (fun rs=>rs=[.int .i64 (jE s)]):=by
 have h:=yR (108 :: s) (by simp only [List.length_cons]; omega)
 refine cW aQB [] ?_
 dsimp only [aQB,aUn,rF,cS,cE,cR,c8]
 try simp only [wQ]
 repeat' (first|(simp only [cK,↓wA,↓wC,wB,reduceEqDiff,reduceIte,reduceCtorEq])|(refine cJ (h) rfl rfl ?_)|(refine cL (h) rfl rfl ?_)|(with_reducible refine cO ?_ ?_; focus ((try simp only [List.length_append,List.length_cons,List.length_nil]); omega))|((first|apply cH|apply cI|apply cG)<;>intro h<;>try simp only [h]))
 all_goals rfl
theorem aHO (s:List UInt8) (hl:s.length<=100):Fn prog 197 [.str s] (fun rs=>rs=[.int .i64 (jE s)]):=by
 have h:=yC (108 :: s) (by rw [d5]; simp only [List.length_cons]; omega)
 refine cW aQL [] ?_
 dsimp only [aQL,aUg,rF,cS,cE,cR,c8]
 try simp only [wQ]
 repeat' (first|(simp only [cK,↓wA,↓wC,wB,reduceEqDiff,reduceIte,reduceCtorEq])|(refine cJ (h) rfl rfl ?_)|(refine cL (h) rfl rfl ?_)|(with_reducible refine cO ?_ ?_; focus ((try simp only [List.length_append,List.length_cons,List.length_nil]); omega))|((first|apply cH|apply cI|apply cG)<;>intro h<;>try simp only [h]))
 all_goals rfl
theorem aFT (a b:Int) (ha:gA a) (hb:gA b):Fn prog 221 [.int .i64 a,.int .i64 b] (fun rs=>rs=[.int .i64 (sX a b)]):=by
 have l1:=eL a (kY ha)
 have l2:=eL b (kY hb)
 have d1:=eZ a (kY ha)
 have d2:=eZ b (kY hb)
 have h:=yR (110 :: (Lib.itoa a ++ 44 :: Lib.itoa b)) (by simp only [List.length_cons,List.length_append]; omega)
 refine cW aQO [] ?_
 dsimp only [aQO,aUD,rF,cS,cE,cR,c8]
 try simp only [wQ]
 repeat' (first|(simp only [cK,List.append_assoc,List.cons_append,List.nil_append,↓wA,↓wC,wB,reduceEqDiff,reduceAdd,reduceIte,reduceCtorEq])|(refine cJ (d1) rfl rfl ?_)|(refine cL (d1) rfl rfl ?_)|(refine cJ (d2) rfl rfl ?_)|(refine cL (d2) rfl rfl ?_)|(refine cJ (h) rfl rfl ?_)|(refine cL (h) rfl rfl ?_)|(with_reducible refine cO ?_ ?_; focus ((try simp only [List.length_append,List.length_cons,List.length_nil]); omega))|((first|apply cH|apply cI|apply cG)<;>intro h<;>try simp only [h]))
 all_goals rfl
theorem aHg (a b:Int) (ha:gA a) (hb:gA b):Fn prog 198 [.int .i64 a,.int .i64 b] (fun rs=>rs=[.int .i64 (sX a b)]):=by
 have l1:=eL a (kY ha)
 have l2:=eL b (kY hb)
 have d1:=fI a ha.1 (kY ha)
 have d2:=fI b hb.1 (kY hb)
 have h:=yC (110 :: (Lib.itoa a ++ 44 :: Lib.itoa b)) (by rw [d5]; simp only [List.length_cons,List.length_append]; omega)
 refine cW aQ8 [] ?_
 dsimp only [aQ8,aT1,rF,cS,cE,cR,c8]
 try simp only [wQ]
 repeat' (first|(simp only [cK,List.append_assoc,List.cons_append,List.nil_append,↓wA,↓wC,wB,reduceEqDiff,reduceAdd,reduceIte,reduceCtorEq])|(refine cJ (d1) rfl rfl ?_)|(refine cL (d1) rfl rfl ?_)|(refine cJ (d2) rfl rfl ?_)|(refine cL (d2) rfl rfl ?_)|(refine cJ (h) rfl rfl ?_)|(refine cL (h) rfl rfl ?_)|(with_reducible refine cO ?_ ?_; focus ((try simp only [List.length_append,List.length_cons,List.length_nil]); omega))|((first|apply cH|apply cI|apply cG)<;>intro h<;>try simp only [h]))
 all_goals rfl
theorem aEn (L:List (List UInt8)) (hl:L.length<=8) (hx:∀ s∈L,s.length<=100):Fn prog 164 [.sl false 1 (dl D.str L)] (fun rs=>rs=[.sl true 1 (dl iD (L.map jE))]):=by
 refine cW aQC [] ?_
 dsimp only [aQC,aUV,rF,cS,cE,cR,c8]
 try simp only [wQ]
 repeat' (first|(simp only [cK,↓wA,↓wC,wB,reduceEqDiff,reduceIte,reduceCtorEq])|((first|apply cH|apply cI|apply cG)<;>intro h<;>try simp only [h]))
 refine dV L.length (fun i:Nat=>⟨[(0,.d (.sl false 1 (dl D.str L))),(3,.own 0),(4,.d (.int .i64 i))],[.val (.sl true 1 (dl iD ((L.take i).map jE)))]⟩) (fun _=>True) (cV _ rfl ⟨⟨rfl,rfl⟩,⟨rfl,rfl⟩,⟨rfl,rfl⟩,trivial⟩) trivial ?_ ?_
 ·intro i hlt _ hd h0
  obtain ⟨s,hr⟩:=dW hlt
  have h:=aHO s (hx s (List.mem_of_getElem? hr))
  have hsn:(L.take (i + 1)).map jE=(L.take i).map jE ++ [jE s]:=by rw [fG hr,List.map_append]; rfl
  have hvl:((L.take i).map jE).length<=8:=by simp; omega
  repeat' (first|(simp only [cP,hd,h0,dC,Int.toNat_natCast,hr,Option.map_some,cK,jR,↓wA,↓wC,wB,reduceEqDiff,reduceIte,reduceCtorEq,Nat.reduceBEq])|(refine cJ (h) rfl rfl ?_)|(refine cL (h) rfl rfl ?_)|(with_reducible refine cM ?_ ?_; focus (simp only [dX]; omega))|(with_reducible refine cO ?_ ?_; focus omega)|(with_reducible refine cO ?_ ?_; focus (simp; done))|((first|apply cH|apply cI|apply cG)<;>intro h<;>try simp only [h]))
  refine ⟨i + 1,?_,by omega,by omega⟩
  rw [hsn]
  exact (cV _ rfl ⟨⟨rfl,rfl⟩,⟨rfl,rfl⟩,⟨rfl,rfl⟩,trivial⟩)
 ·intro _ hd
  repeat' (first|(simp only [hd,cP,List.take_length,↓wA,↓wC,wB,reduceEqDiff,reduceIte,reduceCtorEq])|((first|apply cH|apply cI|apply cG)<;>intro h<;>try simp only [h]))
theorem aFo (L:List (List UInt8)) (hl:L.length<=8) (hx:∀ s∈L,s.length<=100):Fn prog 194 [.sl false 1 (dl D.str L)] (fun rs=>rs=[.sl true 1 (dl iD (L.map jE))]):=by
 refine cW aRR [] ?_
 dsimp only [aRR,aUa,rF,cS,cE,cR,c8]
 try simp only [wQ]
 repeat' (first|(simp only [cK,cP,↓wA,↓wC,wB,reduceEqDiff,reduceIte,reduceCtorEq])|((first|apply cH|apply cI|apply cG)<;>intro h<;>try simp only [h]))
 refine tL [(3,1)] L.length (fun i:Nat=>⟨[(3,.own 0),(6,.d (.sl false 1 (dl D.str L))),(7,.d (.int .i64 L.length)),(8,.d (.int .i64 i))],[.val (.sl true 1 (dl iD ((L.take i).map jE)))]⟩) (fun _=>True) ⟨rfl,trivial⟩ ?_ trivial ?_ ?_
 ·exact (cV _ rfl ⟨⟨rfl,rfl⟩,⟨rfl,rfl⟩,⟨rfl,rfl⟩,⟨rfl,rfl⟩,trivial⟩)
 ·intro i hlt _ hd h0
  obtain ⟨s,hr⟩:=dW hlt
  have h:=aEY s (hx s (List.mem_of_getElem? hr))
  have hsn:(L.take (i + 1)).map jE=(L.take i).map jE ++ [jE s]:=by rw [fG hr,List.map_append]; rfl
  have hvl:((L.take i).map jE).length<=8:=by simp; omega
  repeat' (first|(simp only [cP,hd,h0,dC,Int.toNat_natCast,hr,Option.map_some,cK,jR,↓wA,↓wC,wB,reduceEqDiff,reduceIte,Nat.reduceBEq])|(refine cJ (h) rfl rfl ?_)|(refine cL (h) rfl rfl ?_)|(with_reducible refine cM ?_ ?_; focus (simp only [dX]; omega))|(with_reducible refine cO ?_ ?_; focus omega)|(with_reducible refine cO ?_ ?_; focus (simp; done))|((first|apply cH|apply cI|apply cG)<;>intro h<;>try simp only [h]))
  refine ⟨i + 1,?_,by omega,by omega⟩
  rw [hsn]
  exact (cV _ rfl ⟨⟨rfl,rfl⟩,⟨rfl,rfl⟩,⟨rfl,rfl⟩,⟨rfl,rfl⟩,trivial⟩)
 ·intro _ hd
  repeat' (first|(simp only [hd,List.take_length,↓wA,↓wC,wB,reduceEqDiff,reduceIte])|((first|apply cH|apply cI|apply cG)<;>intro h<;>try simp only [h]))
theorem aGJ (v:List Int) (hl:v.length<=1000) (hv:∀ n∈v,gA n):Fn prog 165 [.sl false 1 (dl iD v)] (fun rs=>rs=[.sl true 1 (dl iD (fW v))]):=by
 refine cW aQF [] ?_
 dsimp only [aQF,aVG,rF,cS,cE,cR,c8]
 try simp only [wQ]
 repeat' (first|(simp only [cK,↓wA,↓wC,wB,reduceEqDiff,reduceIte,reduceCtorEq])|((first|apply cH|apply cI|apply cG)<;>intro h<;>try simp only [h]))
 refine eK (fun i:Nat=>⟨[(0,.d (.sl false 1 (dl iD v))),(3,.own 0),(4,.d (.int .i64 i))],[.val (.sl true 1 (dl iD (fW (v.take i))))]⟩) (fun i=>i % 2=0/\i<=v.length + 1) (fun i=>v.length + 2 - i) 0 (cV _ rfl ⟨⟨rfl,rfl⟩,⟨rfl,rfl⟩,⟨rfl,rfl⟩,trivial⟩) ⟨rfl,by omega⟩ ?_
 rintro i ⟨i1,i2⟩
 by_cases hlt:i < v.length
 ·obtain ⟨a,ha⟩:=dW hlt
  have hA:=hv a (List.mem_of_getElem? ha)
  have hd:decide ((i:Int) < (v.length:Int))=true:=decide_eq_true (by omega)
  have h0:(0:Int)<=(i:Int):=by omega
  have hrl:=mN (v.take i)
  rw [List.length_take,Nat.min_eq_left (by omega)] at hrl
  by_cases h2:i + 1 < v.length
  ·obtain ⟨b,hb⟩:=dW h2
   have hB:=hv b (List.mem_of_getElem? hb)
   have hP:=aHg a b hA hB
   have hsn:=aHS i1 ha hb
   have hd2:decide ((i:Int) + 1 < (v.length:Int))=true:=decide_eq_true (by omega)
   have h02:(0:Int)<=(i:Int) + 1:=by omega
   have hcast:((i:Int) + 1).toNat=i + 1:=by omega
   repeat' (first|(simp only [cP,hd,h0,hd2,h02,hcast,dC,Int.toNat_natCast,ha,hb,Option.map_some,cK,iD,jR,↓wA,↓wC,wB,reduceEqDiff,reduceIte,reduceCtorEq,Nat.reduceBEq])|(refine cJ (hP) rfl rfl ?_)|(refine cL (hP) rfl rfl ?_)|(refine dJ ?_)|(with_reducible refine cM ?_ ?_; focus (simp only [dX]; omega))|(with_reducible refine cO ?_ ?_; focus omega)|(with_reducible refine cO ?_ ?_; focus (simp; done))|((first|apply cH|apply cI|apply cG)<;>intro h<;>try simp only [h]))
   all_goals
    refine ⟨i + 2,?_,⟨by omega,by omega⟩,by omega⟩
    rw [hsn]
    exact (cV _ rfl ⟨⟨rfl,rfl⟩,⟨rfl,rfl⟩,⟨rfl,rfl⟩,trivial⟩)
  ·have hsn:=aHm i1 ha (by omega)
   have hd2:decide ((i:Int) + 1 < (v.length:Int))=false:=decide_eq_false (by omega)
   repeat' (first|(simp only [cP,hd,h0,hd2,dC,Int.toNat_natCast,ha,Option.map_some,cK,iD,jR,↓wA,↓wC,wB,reduceEqDiff,reduceIte,reduceCtorEq,Nat.reduceBEq])|(refine dJ ?_)|(with_reducible refine cM ?_ ?_; focus (simp only [dX]; omega))|(with_reducible refine cO ?_ ?_; focus omega)|(with_reducible refine cO ?_ ?_; focus (simp; done))|((first|apply cH|apply cI|apply cG)<;>intro h<;>try simp only [h]))
   all_goals
    refine ⟨i + 2,?_,⟨by omega,by omega⟩,by omega⟩
    rw [hsn]
    exact (cV _ rfl ⟨⟨rfl,rfl⟩,⟨rfl,rfl⟩,⟨rfl,rfl⟩,trivial⟩)
 ·have hd:decide ((i:Int) < (v.length:Int))=false:=decide_eq_false (by omega)
  have e:v.take i=v:=List.take_of_length_le (by omega)
  rw [e]
  repeat' (first|(simp only [cP,hd,↓wA,↓wC,wB,reduceEqDiff,reduceIte,reduceCtorEq])|((first|apply cH|apply cI|apply cG)<;>intro h<;>try simp only [h]))
def mA (v:List Int):Int:=if h:v.length<=1 then v.headD 0 else mA (fW v)
termination_by v.length
decreasing_by rw [mN]; omega
theorem aEa {v:List Int} {a:Int} (h:v.length<=1) (ha:v[0]?=some a):mA v=a:=by
 rw [mA,dif_pos h]
 cases v with
 | nil=>simp at ha
 | cons b r=>simpa using ha
theorem wK {v:List Int} (h:¬ v.length<=1):mA (fW v)=mA v:=by
 conv=>rhs; rw [mA,dif_neg h]
theorem aMp:Int.toNat 0=0:=rfl
theorem aT3:((0:Int)<=0)=True:=by simp
theorem aD2 (L:List (List UInt8)):∀ n∈L.map jE,gA n:=by
 intro n hn
 obtain ⟨s,_,rfl⟩:=List.mem_map.1 hn
 exact aG5 s
theorem aHj (L:List (List UInt8)) (hl:L.length<=8) (h1:1<=L.length) (hx:∀ s∈L,s.length<=100):Fn prog 125 [.sl false 1 (dl D.str L)] (fun rs=>rs=[.int .i64 (mA (L.map jE))]):=by
 have hL:=aEn L hl hx
 refine cW aQZ [] ?_
 dsimp only [aQZ,aU7,rF,cS,cE,cR,c8]
 try simp only [wQ]
 repeat' (first|(simp only [cK,↓wA,↓wC,wB,reduceEqDiff,reduceIte,reduceCtorEq])|(refine cJ (hL) rfl rfl ?_)|(refine cL (hL) rfl rfl ?_)|((first|apply cH|apply cI|apply cG)<;>intro h<;>try simp only [h]))
 refine eK (fun x:List Int=>⟨[(3,.d (.sl false 1 (dl iD x)))],[]⟩) (fun x=>mA x=mA (L.map jE)/\(∀ n∈x,gA n)/\1<=x.length/\x.length<=8) (fun x=>x.length) (L.map jE) ((aHE 0 rfl).trans (cV _ rfl ⟨⟨by simp only [v6,tC,D.unown,dS,↓wC,reduceIte],rfl⟩,trivial⟩)) ⟨rfl,aD2 L,by simpa using h1,by simpa using hl⟩ ?_
 rintro x ⟨x1,x2,x3,x4⟩
 have hR:=aGJ x (by omega) x2
 have hrl:=mN x
 have hoA:([D.sl true 1 (dl iD (fW x))].all D.allOwn)=true:=by simp [D.allOwn,mG uK]
 by_cases hgt:1 < x.length
 ·have hd:decide ((1:Int) < (x.length:Int))=true:=decide_eq_true (by omega)
  repeat' (first|(simp only [cP,hd,↓wA,↓wC,wB,reduceEqDiff,reduceIte])|(refine cJ hR rfl rfl ?_)|((first|apply cH|apply cI|apply cG)<;>intro h<;>try simp only [h]))
  refine ⟨fW x,((aHE 0 rfl).trans (cV _ rfl ⟨⟨by simp only [v6,tC,D.unown,dS,↓wC,reduceIte],rfl⟩,trivial⟩)),⟨(wK (by omega)).trans x1,uY x x2,by omega,by omega⟩,by omega⟩
 ·have hd:decide ((1:Int) < (x.length:Int))=false:=decide_eq_false (by omega)
  obtain ⟨a,ha⟩:=dW (show 0 < x.length by omega)
  have hro:=aEa (by omega) ha
  repeat' (first|(simp only [cP,hd,cK,dC,aMp,aT3,ha,Option.map_some,iD,↓wA,↓wC,wB,reduceEqDiff,reduceIte])|((first|apply cH|apply cI|apply cG)<;>intro h<;>try simp only [h]))
  all_goals rw [<- x1,hro]
def uN:Prop:=∀ v:List Int,v.length<=1000->(∀ n∈v,gA n)->Fn prog 195 [.sl false 1 (dl iD v)] (fun rs=>rs=[.sl true 1 (dl iD (fW v))])
theorem aKV (hRd:uN) (L:List (List UInt8)) (hl:L.length<=1048576):Fn prog 155 [.sl false 1 (dl D.str L)] (fun rs=>rs=if eG L=true then [.int .i64 (mA (L.map jE)),.bool true] else [.int .i64 0,.bool false]):=by
 have hV:=aAE L hl
 cases hv:eG L with
 | false =>
  rw [hv] at hV
  refine cW aIW [] ?_
  dsimp only [aIW,aS6,rF,cS,cE,cR,c8]
  try simp only [wQ]
  repeat' (first|(simp only [cK,↓wA,↓wC,wB,reduceEqDiff,reduceIte,reduceCtorEq])|(refine cJ (hV) rfl rfl ?_)|(refine cL (hV) rfl rfl ?_)|((first|apply cH|apply cI|apply cG)<;>intro h<;>try simp only [h]))
  all_goals simp
 | true =>
  rw [hv] at hV
  simp only [eG,Bool.and_eq_true,c6,decide_eq_true_eq,List.all_eq_true] at hv
  obtain ⟨⟨h1,h8⟩,hx⟩:=hv
  have hx':∀ s∈L,s.length<=100:=fun s hs=>by
   have:=hx s hs
   simp only [jQ,Bool.and_eq_true] at this
   have:=wR s.length this.1
   omega
  have hL:=aFo L (by omega) hx'
  refine cW aIW [] ?_
  dsimp only [aIW,aS6,rF,cS,cE,cR,c8]
  try simp only [wQ]
  repeat' (first|(simp only [cK,↓wA,↓wC,wB,reduceEqDiff,reduceIte,reduceCtorEq])|(refine cJ (hV) rfl rfl ?_)|(refine cL (hV) rfl rfl ?_)|(refine cJ (hL) rfl rfl ?_)|(refine cL (hL) rfl rfl ?_)|((first|apply cH|apply cI|apply cG)<;>intro h<;>try simp only [h]))
  refine eK (fun x:List Int=>⟨[(4,.d (.sl false 1 (dl iD x)))],[]⟩) (fun x=>mA x=mA (L.map jE)/\(∀ n∈x,gA n)/\1<=x.length/\x.length<=8) (fun x=>x.length) (L.map jE) ((aHE 0 rfl).trans (cV _ rfl ⟨⟨by simp only [v6,tC,D.unown,dS,↓wC,reduceIte],rfl⟩,trivial⟩)) ⟨rfl,aD2 L,by simp; omega,by simp; omega⟩ ?_
  rintro x ⟨x1,x2,x3,x4⟩
  have hR:=hRd x (by omega) x2
  have hrl:=mN x
  have hoA:([D.sl true 1 (dl iD (fW x))].all D.allOwn)=true:=by simp [D.allOwn,mG uK]
  by_cases hgt:1 < x.length
  ·have hd:decide ((1:Int) < (x.length:Int))=true:=decide_eq_true (by omega)
   repeat' (first|(simp only [cP,hd,↓wA,↓wC,wB,reduceEqDiff,reduceIte])|(refine cJ hR rfl rfl ?_)|((first|apply cH|apply cI|apply cG)<;>intro h<;>try simp only [h]))
   refine ⟨fW x,((aHE 0 rfl).trans (cV _ rfl ⟨⟨by simp only [v6,tC,D.unown,dS,↓wC,reduceIte],rfl⟩,trivial⟩)),⟨(wK (by omega)).trans x1,uY x x2,by omega,by omega⟩,by omega⟩
  ·have hd:decide ((1:Int) < (x.length:Int))=false:=decide_eq_false (by omega)
   obtain ⟨a,ha⟩:=dW (show 0 < x.length by omega)
   have hro:=aEa (by omega) ha
   repeat' (first|(simp only [cP,hd,cK,dC,aMp,aT3,ha,Option.map_some,iD,↓wA,↓wC,wB,reduceEqDiff,reduceIte])|((first|apply cH|apply cI|apply cG)<;>intro h<;>try simp only [h]))
   all_goals rw [<- x1,hro]
def aDY (o:Off):List D:=if dN o=true/\eG o.led=true then [.int .i64 (mA (o.led.map jE)),.bool true] else [.int .i64 0,.bool false]
theorem aFH (hRd:uN) (o:Off) (ho:o.ok0):Fn prog 112 [o.s] (fun rs=>rs=aDY o):=by
 have hV:=iZ o ho
 have hR:=aKV hRd o.led ho.2.1
 unfold aDY
 cases hv:dN o with
 | false =>
  rw [hv] at hV
  refine cW aDZ [] ?_
  dsimp only [aDZ,aOm,rF,cS,cE,cR,c8]
  try simp only [wQ]
  repeat' (first|(simp only [aXW,aXX,↓dL,cK,↓wA,↓wC,wB,reduceEqDiff,reduceIte,reduceCtorEq])|(refine cJ hV (by simp [dA,dK]) rfl ?_)|((first|apply cH|apply cI|apply cG)<;>intro h<;>try simp only [h]))
  all_goals simp
 | true =>
  rw [hv] at hV
  cases hl:eG o.led with
  | true =>
   rw [hl,if_pos rfl] at hR
   refine cW aDZ [] ?_
   dsimp only [aDZ,aOm,rF,cS,cE,cR,c8]
   try simp only [wQ]
   repeat' (first|(simp only [aXW,aXX,↓dL,cK,xG,yU,cZ,↓wA,↓wC,wB,reduceEqDiff,reduceAdd,reduceIte,reduceCtorEq])|(refine cJ (hR) rfl rfl ?_)|(refine cL (hR) rfl rfl ?_)|(refine cJ hV (by simp [dA,dK]) rfl ?_)|((first|apply cH|apply cI|apply cG)<;>intro h<;>try simp only [h]))
   all_goals simp
  | false =>
   rw [hl,if_neg (by simp)] at hR
   refine cW aDZ [] ?_
   dsimp only [aDZ,aOm,rF,cS,cE,cR,c8]
   try simp only [wQ]
   repeat' (first|(simp only [aXW,aXX,↓dL,cK,xG,yU,cZ,↓wA,↓wC,wB,reduceEqDiff,reduceAdd,reduceIte,reduceCtorEq])|(refine cJ (hR) rfl rfl ?_)|(refine cL (hR) rfl rfl ?_)|(refine cJ hV (by simp [dA,dK]) rfl ?_)|((first|apply cH|apply cI|apply cG)<;>intro h<;>try simp only [h]))
   all_goals simp
theorem aJ0 {o:Off} (h:dN o=true):decide ((0:Int) < (o.led.length:Int))=eG o.led:=by
 simp only [dN,rY,aCD,Bool.and_eq_true,Bool.or_eq_true,Bool.not_eq_true'] at h
 rcases h.1.2 with h|h
 ·rw [h]
  have:¬ (0:Int) < (o.led.length:Int):=of_decide_eq_false h
  have e:o.led.length=0:=by omega
  symm
  simp [eG,c6,e]
 ·rw [h]
  simp only [eG,Bool.and_eq_true,c6,decide_eq_true_eq] at h
  exact decide_eq_true (by omega)
theorem aGb (o:Off) (ho:o.ok0):Fn prog 93 [o.s] (fun rs=>rs=aDY o):=by
 have hV:=fS o ho
 unfold aDY
 cases hv:dN o with
 | false =>
  rw [hv] at hV
  refine cW aKu [] ?_
  dsimp only [aKu,m93,rF,cS,cE,cR,c8]
  try simp only [wQ]
  repeat' (first|(simp only [aXW,aXX,↓dL,cK,↓wA,↓wC,wB,reduceEqDiff,reduceIte,reduceCtorEq])|(refine cJ hV (by simp [dA,dK]) rfl ?_)|((first|apply cH|apply cI|apply cG)<;>intro h<;>try simp only [h]))
  all_goals simp
 | true =>
  rw [hv] at hV
  have hq:=aJ0 hv
  cases hl:eG o.led with
  | true =>
   rw [hl] at hq
   have hq':=of_decide_eq_true hq
   have h0:decide ((o.led.length:Int)=0)=false:=decide_eq_false (by omega)
   have hx:∀ s∈o.led,s.length<=100:=fun s hs=>by
    simp only [eG,Bool.and_eq_true,c6,decide_eq_true_eq,List.all_eq_true] at hl
    have:=hl.2 s hs
    simp only [jQ,Bool.and_eq_true] at this
    have:=wR s.length this.1
    omega
   have hR:=aHj o.led (by simp only [eG,Bool.and_eq_true,c6,decide_eq_true_eq] at hl; omega) (by omega) hx
   refine cW aKu [] ?_
   dsimp only [aKu,m93,rF,cS,cE,cR,c8]
   try simp only [wQ]
   repeat' (first|(simp only [h0,cP,aXW,aXX,↓dL,cK,xG,yU,cZ,↓wA,↓wC,wB,reduceEqDiff,reduceIte,reduceCtorEq])|(refine cJ (hR) rfl rfl ?_)|(refine cL (hR) rfl rfl ?_)|(refine cJ hV (by simp [dA,dK]) rfl ?_)|((first|apply cH|apply cI|apply cG)<;>intro h<;>try simp only [h]))
   all_goals simp
  | false =>
   rw [hl] at hq
   have hq':=of_decide_eq_false hq
   have h0:decide ((o.led.length:Int)=0)=true:=decide_eq_true (by omega)
   refine cW aKu [] ?_
   dsimp only [aKu,m93,rF,cS,cE,cR,c8]
   try simp only [wQ]
   repeat' (first|(simp only [h0,cP,aXW,aXX,↓dL,cK,xG,yU,cZ,↓wA,↓wC,wB,reduceEqDiff,reduceIte,reduceCtorEq])|(refine cJ hV (by simp [dA,dK]) rfl ?_)|((first|apply cH|apply cI|apply cG)<;>intro h<;>try simp only [h]))
   all_goals simp
end Go.Pe.Tryz
namespace Go.Proofs.ChkTryz
open Go.Proofs Go.RowKit Go.Shelf
attribute [local go_sem] Oper.semAt_some
def sJ (n₀ Bs Bn:Nat) (W W':World):Prop:=Below n₀ W W'/\W'.heap[Bs]?=W.heap[Bs]?/\W'.heap[Bn]?=W.heap[Bn]?
theorem sJ.refl (n₀ Bs Bn:Nat) (W:World):sJ n₀ Bs Bn W W:=⟨Below.refl _ _,rfl,rfl⟩
theorem sJ.trans {n₀ Bs Bn:Nat} {A B C:World} (h:sJ n₀ Bs Bn A B) (k:sJ n₀ Bs Bn B C):sJ n₀ Bs Bn A C:=⟨h.1.trans k.1,k.2.1.trans h.2.1,k.2.2.trans h.2.2⟩
theorem sJ.drew {n₀ Bs Bn:Nat} {A B:World} (h:sJ n₀ Bs Bn A B):sJ n₀ Bs Bn A B.drew:=⟨h.1.drew,h.2.1,h.2.2⟩
abbrev Ix (len:Nat):={ k:Nat // 2 * k < len }
def enc (b off len:Nat) (k:Nat):Array Value:=#[.slice (some ⟨b,off + 2 * k,none⟩) (min 2 (len - 2 * k)) (min 2 (len - 2 * k))]
theorem aHa {β:Type} {B:Nat} {J:β->World->Prop} (h:AbidesFrom B J) {s:β} {W:World} (hs:J s W):J s W.drew :=
 h s W W.drew none hs ⟨rfl,rfl,rfl,Nat.le_refl _,fun _ _ _=>rfl⟩ (fun _ e=>by cases e)
set_option maxRecDepth 100000 in
set_option maxHeartbeats 4000000 in
theorem aJ4 (F:Fence) (n:Nat) (h7:F.fn 246) (hro:F.round=none) (hn:1<=n) (l Bs Bn n₀ b off len cap:Nat) (hcap:len<=cap) (hreach:len<=1048576) (hb:b < n₀) (J Jx:List (Ix len)->World->Prop) (hJ:∀ s W,J s W->J s W.drew)
  (hY:∀ pre x W,J pre W->pre.length < (len + 1) / 2->YieldAt F (n - 1) Tryz.prog l (enc b off len x.1) W fun e W' =>
   (e=.returned (.bool true)/\J (pre ++ [x]) W'/\sJ n₀ Bs Bn W W')\/(e=.returned (.bool false)/\Jx (pre ++ [x]) W'))
  (W:World) (hBs:W.cell? ⟨Bs,0,none⟩=some (.slice (some ⟨b,off,none⟩) len cap)) (hBn:W.cell? ⟨Bn,0,none⟩=some (.int .i64 2)) (h0:J [] W) :
  CallsIn F n Tryz.prog 246 #[.func (.yield l) #[] #[],.pointer (some ⟨Bs,0,none⟩),.pointer (some ⟨Bn,0,none⟩)] W fun e W'=>(∃ v,e=.returned v) /\
   ((∃ ys:List (Ix len),ys.map (·.1)=List.range ((len + 1) / 2)/\J ys W')\/(∃ pre,Jx pre W')):=by
 refine callsIn_of_wp Tryz.func246 rfl h7 ?_ hro
 have hnt:Tryz.f246.ntmps=31:=rfl
 simp only [hnt,List.size_toArray,List.length_cons,List.length_nil,Nat.reduceAdd,Nat.reduceSub,Array.replicate_succ,Array.replicate_zero,List.push_toArray,List.append_toArray,List.nil_append,List.cons_append]
 gi_wp2
 gi_loopw [4] (fun i wr=>∃ k:Nat,2 * k<=len + 1/\i=.int .i64 (2 * k:Nat)/\(∃ ys:List (Ix len),ys.map (·.1)=List.range k/\J ys wr)/\sJ n₀ Bs Bn W wr)
  (fun i _=>len + 2 - (intOf i).toNat)
 case atStart=>exact ⟨0,by omega,rfl,⟨[],rfl,h0⟩,sJ.refl _ _ _ _⟩
 case round =>
  obtain ⟨k,hk,rfl,⟨ys,hys,hJs⟩,hnx,hs1,hs2⟩:=hrel
  have hBs':wr.cell? ⟨Bs,0,none⟩=some (.slice (some ⟨b,off,none⟩) len cap):=by unfold World.cell? at hBs ⊢; rw [hs1]; exact hBs
  have hBn':wr.cell? ⟨Bn,0,none⟩=some (.int .i64 2):=by unfold World.cell? at hBn ⊢; rw [hs2]; exact hBn
  by_cases hlt:2 * k < len
  ·obtain ⟨fn,tmps,assign,body,hy,hR⟩:=hY ys ⟨k,hlt⟩ wr.drew (hJ _ _ hJs) (by have:=congrArg List.length hys; simp at this; omega)
   have hBs3:∀ W3,sJ n₀ Bs Bn wr.drew W3->W3.cell? ⟨Bs,0,none⟩=some (.slice (some ⟨b,off,none⟩) len cap):=fun W3 h=>by
    unfold World.cell? at hBs' ⊢; rw [h.2.1]; exact hBs'
   have hBn3:∀ W3,sJ n₀ Bs Bn wr.drew W3->W3.cell? ⟨Bn,0,none⟩=some (.int .i64 2):=fun W3 h=>by
    unfold World.cell? at hBn' ⊢; rw [h.2.2]; exact hBn'
   have hKd:sJ n₀ Bs Bn W wr.drew:=(sJ.drew ⟨hnx,hs1,hs2⟩)
   gi_wp2
   gi_region
   all_goals gi_wp2
   all_goals
    first
     |(have e : (#[Value.slice (some { block := b, off := off + 2 * k }) ((2 * ↑k + (2 : Int)).toNat - 2 * k) ((2 * ↑k + (2 : Int)).toNat - 2 * k)] : Array Value) = enc b off len k := by
        unfold enc; rw [show (2 * ↑k + (2:Int)).toNat - 2 * k=min 2 (len - 2 * k) by omega]
       rw [e,hy])
     |(have e : (#[Value.slice (some { block := b, off := off + 2 * k }) ((2 * ↑k + min (2 : Int) ↑(len - 2 * k)).toNat - 2 * k) ((2 * ↑k + min (2 : Int) ↑(len - 2 * k)).toNat - 2 * k)] : Array Value) = enc b off len k := by
        unfold enc; rw [show (2 * ↑k + min (2:Int) ↑(len - 2 * k)).toNat - 2 * k=min 2 (len - 2 * k) by omega]
       rw [e,hy])
     |(have e : (#[Value.slice (some { block := b, off := off + 2 * k }) ((2 * ↑k + ↑(len - 2 * k) : Int).toNat - 2 * k) ((2 * ↑k + ↑(len - 2 * k) : Int).toNat - 2 * k)] : Array Value) = enc b off len k := by
        unfold enc; rw [show (2 * ↑k + ↑(len - 2 * k):Int).toNat - 2 * k=min 2 (len - 2 * k) by omega]
       rw [e,hy])
    gi_wp2
    refine hR.mono ?_
    rintro e W3 (⟨rfl,hJ3,hk3⟩|⟨rfl,hJx3⟩)
    ·have hb3:=hBn3 W3 hk3
     gi_wp2
     go_roundw
     case rel=>exact ⟨k + 1,by omega,by simp; omega,⟨ys ++ [⟨k,hlt⟩],by simp [hys,List.range_succ],hJ3⟩,hKd.trans hk3⟩
     case measure=>simp [intOf]; omega
    ·gi_wp2
     refine bodyPost_ret (results_none rfl _ _ _) rfl ?_
     exact ⟨⟨_,rfl⟩,.inr ⟨_,hJx3⟩⟩
  ·gi_wp2
   go_end0
   exact ⟨⟨_,rfl⟩,.inl ⟨ys,by rw [hys]; congr 1; omega,hJs⟩⟩
set_option maxRecDepth 100000 in
set_option maxHeartbeats 4000000 in
theorem aC4 (F:Fence) (n:Nat) (h7:F.fn 246) (hro:F.round=none) (l Bs Bn:Nat) (a:Option Addr) (cap:Nat) (J:World->Prop) (W:World) (hBs:W.cell? ⟨Bs,0,none⟩=some (.slice a 0 cap)) (h0:J W) :
  CallsIn F n Tryz.prog 246 #[.func (.yield l) #[] #[],.pointer (some ⟨Bs,0,none⟩),.pointer (some ⟨Bn,0,none⟩)] W fun e W'=>(∃ v,e=.returned v)/\J W':=by
 refine callsIn_of_wp Tryz.func246 rfl h7 ?_ hro
 have hnt:Tryz.f246.ntmps=31:=rfl
 simp only [hnt,List.size_toArray,List.length_cons,List.length_nil,Nat.reduceAdd,Nat.reduceSub,Array.replicate_succ,Array.replicate_zero,List.push_toArray,List.append_toArray,List.nil_append,List.cons_append]
 gi_wp2
 gi_loopw [4] (fun i wr=>i=.int .i64 0/\wr=W) (fun _ _=>0)
 case atStart=>exact ⟨rfl,rfl⟩
 case round =>
  obtain ⟨rfl,rfl⟩:=hrel
  gi_wp2
  go_end0
  exact ⟨⟨_,rfl⟩,h0⟩
set_option maxRecDepth 100000 in
set_option maxHeartbeats 4000000 in
theorem aLm (F:Fence) (n:Nat) (h5:F.fn 220) (hro:F.round=none) (a:Option Addr) (len cap:Nat) (w:World) :
  CallsIn F n Tryz.prog 220 #[.slice a len cap,.int .i64 2] w fun e w'=>e=.returned (.func (.func 246) #[] #[.pointer (some ⟨w.heap.size,0,none⟩),.pointer (some ⟨w.heap.size + 1,0,none⟩)]) /\
   w'=(w.alloc (.cells #[.slice a len cap] 84)).alloc (.cells #[.int .i64 2] 3):=by
 refine callsIn_of_wp Tryz.func220 rfl h5 ?_ hro
 have hnt:Tryz.f220.ntmps=9:=rfl
 simp only [hnt,List.size_toArray,List.length_cons,List.length_nil,Nat.reduceAdd,Nat.reduceSub,Array.replicate_succ,Array.replicate_zero,List.push_toArray,List.append_toArray,List.nil_append,List.cons_append]
 gi_wp2
 go_ret
 exact ⟨by simp,rfl⟩
theorem aG6 (F:Fence) (n:Nat) (h7:F.fn 246) (hro:F.round=none) (hn:1<=n) (Bs Bn n₀ b off len cap:Nat) (a:Option Addr) (hreach:len<=1048576) (w:World)
  (ha:len=0\/(a=some ⟨b,off,none⟩/\len<=cap/\b < n₀)) (hBs:Bs < w.heap.size) (hBn:Bn < w.heap.size) (hcs:w.cell? ⟨Bs,0,none⟩=some (.slice a len cap)) (hcn:w.cell? ⟨Bn,0,none⟩=some (.int .i64 2)) :
  SeqStopsK F n Tryz.prog 246 #[.pointer (some ⟨Bs,0,none⟩),.pointer (some ⟨Bn,0,none⟩)] (fun x:Ix len=>enc b off len x.1) (sJ n₀ Bs Bn) (fun ys=>ys.map (·.1)=List.range ((len + 1) / 2)) (fun _=>True) ((len + 1) / 2) w:=fun l J Jx W hW hJ _ hY h0=>by
 have hcs':=(hW.cell (p:=⟨Bs,0,none⟩) hBs).trans hcs
 have hcn':=(hW.cell (p:=⟨Bn,0,none⟩) hBn).trans hcn
 rcases ha with rfl|⟨rfl,hcap,hb⟩
 ·exact (aC4 F n h7 hro l Bs Bn a cap (J []) W hcs' h0).mono fun e W' ⟨he,hj⟩=>⟨he,.inl ⟨[],rfl,hj⟩⟩
 ·exact (aJ4 F n h7 hro hn l Bs Bn n₀ b off len cap hcap hreach hb J Jx (fun s W h=>aHa hJ h) hY W hcs' hcn' h0).mono fun e W' ⟨he,hj⟩=>⟨he,hj.imp id fun ⟨pre,h⟩=>⟨pre,trivial,h⟩⟩
end Go.Proofs.ChkTryz
namespace Go.Pe.Tryz
open Nat (reduceEqDiff reduceAdd reduceSub reduceLT)
open Go Go.Proofs.Tryz
theorem aKF (out pr:List Int) (g:Int) (hg:(∃ a b,pr=[a,b]/\gA a/\gA b/\g=sX a b)\/pr=[g]) (ho:out.length<=1000000) :
  ∃ b,(Go.Proofs.Tryz.f195).body.bind lG=some b/\∀ (c:Ctx),c.G=prog->c.nn=(8,(Go.Proofs.Tryz.f195).ntmps)->∀ C a w,Rel c ⟨[(3,.ptr 0 0 []),(4,.d (.sl false 1 (dl iD pr)))],[.box (.sl true 1 (dl iD out))]⟩ C a w->∀ r n,b.wpIn (Fence.wide.inRound r) n prog.P (fun e a' w'=>∃ s' C',(e=.normal/\look s'.e 3=.ptr 0 0 []/\∃ x,s'.o=.box (.sl true 1 (dl iD (out ++ [g]))) :: x)/\Rel c s' C' a' w') a w:=by
 rcases hg with ⟨a,b,rfl,ha,hb,rfl⟩|rfl
 ·have hP:=aFT a b ha hb
  have i0:([a,b]:List Int)[(0:Int).toNat]?=some a:=rfl
  have i1:([a,b]:List Int)[(1:Int).toNat]?=some b:=rfl
  have d2:decide (((2:Nat):Int)=2)=true:=rfl
  refine aI8 (ps:=[[0,1,0]]) aQY aRP (by rfl) (Q:=fun e s'=>e=.normal/\look s'.e 3=.ptr 0 0 []/\∃ x,s'.o=.box (.sl true 1 (dl iD (out ++ [sX a b]))) :: x) ?_
  unfold aL5
  simp only [cR,c8]
  repeat' (first|(simp only [cP,d2,↓wA,↓wC,wB,reduceEqDiff,reduceAdd,reduceIte])|((first|apply cH|apply cI|apply cG)<;>intro h<;>try simp only [h]))
  refine eY _ (fL 0 none [] (es:=1) (xs:=dl iD out) rfl rfl) fun v=>?_
  simp only [eD,↓wA,↓wC,wB,reduceEqDiff,reduceAdd,reduceIte,Nat.reduceBEq,reduceLT]
  repeat' (first|(simp only [cP,dC,cK,i0,i1,Option.map_some,iD,↓wA,↓wC,wB,reduceEqDiff,reduceAdd,reduceIte,Nat.reduceBEq,reduceLT])|(refine cJ (hP) rfl rfl ?_)|(refine cL (hP) rfl rfl ?_)|(refine dJ ?_)|(refine cL hP rfl rfl ?_)|(with_reducible refine cO ?_ ?_; focus omega)|((first|apply cH|apply cI|apply cG)<;>intro h<;>try simp only [h]))
  refine cO (by simp) (cO (by omega) ?_)
  rw [show (dl iD out).app (.cons (.int .i64 (sX a b)) .nil)=dl iD (out ++ [sX a b]) from hZ (f:=iD) out _]
  exact ⟨_,rfl⟩
 ·have i0:([g]:List Int)[(0:Int).toNat]?=some g:=rfl
  have d2:decide (((1:Nat):Int)=2)=false:=rfl
  refine aI8 (ps:=[[0,1,1]]) aQY aRP (by rfl) (Q:=fun e s'=>e=.normal/\look s'.e 3=.ptr 0 0 []/\∃ x,s'.o=.box (.sl true 1 (dl iD (out ++ [g]))) :: x) ?_
  unfold aL5
  simp only [cR,c8]
  repeat' (first|(simp only [cP,d2,↓wA,↓wC,wB,reduceEqDiff,reduceIte])|((first|apply cH|apply cI|apply cG)<;>intro h<;>try simp only [h]))
  refine eY _ (fL 0 none [] (es:=1) (xs:=dl iD out) rfl rfl) fun v=>?_
  simp only [eD,↓wA,↓wC,wB,reduceEqDiff,reduceAdd,reduceIte,Nat.reduceBEq,reduceLT]
  repeat' (first|(simp only [cP,dC,cK,i0,Option.map_some,iD,↓wA,↓wC,wB,reduceEqDiff,reduceAdd,reduceIte,reduceCtorEq,Nat.reduceBEq,reduceLT])|(refine dJ ?_)|(with_reducible refine cO ?_ ?_; focus omega)|((first|apply cH|apply cI|apply cG)<;>intro h<;>try simp only [h]))
  refine cO (by simp) (cO (by omega) ?_)
  rw [show (dl iD out).app (.cons (.int .i64 g) .nil)=dl iD (out ++ [g]) from hZ (f:=iD) out _]
  exact ⟨_,rfl⟩
end Go.Pe.Tryz
