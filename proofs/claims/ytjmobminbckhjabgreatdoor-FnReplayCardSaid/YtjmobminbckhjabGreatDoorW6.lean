/- A command's reply: the program's replyOf, walked; What a command does to an office: the program's answer, walked; The program's ExecuteCommand, walked; The reference's commands: steps and words, walked; The reference's ExecuteCommand, walked; The reference's ExecuteCommand, walked: the whole; The reference's ExecuteCommand, walked: the whole; The replay of a log: both roads, walked, and the law of ReplayLog; The law of ReplayLog, walked; Marks on consoles; The law of ExecuteCommand; RunScript, walked; The law of RunScript; Scripts: the first line alone; replies are plain; Replies are plain; The law of CrashLog: what of a log survives; Logs in plain lists: what is appended, cut off, torn; A command in a console: what becomes of the log; Logs that a console built replay without a difference; What is recovered of a torn log replays too; What draws: a cursor over bytes; What the laws of offices compare by, walked; The law FnScript, what the draw gives taken as said; The law FnConsole, what the draw gives taken as said; What draws: a number below a bound; What draws: once in n times; one of some numbers -/
import Derived.Test.YtjmobminbckhjabGreatDoorW5
import Derived.Test.YtjmobminbckhjabGreatDoorPeD
import Derived.Test.YtjmobminbckhjabGreatDoorMc1
import Derived.Test.YtjmobminbckhjabGreatDoorMc2
import Derived.Test.YtjmobminbckhjabGreatDoorMc3
import Derived.Test.YtjmobminbckhjabGreatDoorMc4
import Derived.Test.YtjmobminbckhjabGreatDoorMc5
import Derived.Test.YtjmobminbckhjabGreatDoorMc6
import Derived.Test.YtjmobminbckhjabGreatDoorMc7
import Derived.Test.YtjmobminbckhjabGreatDoorMc8
import Derived.Handy
import Derived.Test.YtjmobminbckhjabGreatDoorW1
import Derived.Test.YtjmobminbckhjabGreatDoorW2
set_option maxRecDepth 100000
set_option maxHeartbeats 4000000
set_option linter.all false
open And renaming intro->aE
open Bool renaming and_eq_true->aI
open Int renaming reduceToNat->aD, toNat_zero->aH, toNat_natCast->aK, tmod_lt_of_pos->aU, tmod_nonneg->aZ
open List renaming length_cons->aC, length_nil->aF, mem_of_getElem?->aL, cons_append->aM, eq_nil_of_length_eq_zero->aO, length_append->aP, append_assoc->aQ, nil_append->aR, mem_cons_of_mem->aS, map_cons->aT, length_take->aV, take_length->aW, mem_cons->a7, map_nil->a8
open Nat renaming reduceBEq->aA, min_eq_left->aY, reduceEqDiff->bA, reduceAdd->bB, reduceSub->bC, reduceLT->bD
open Option renaming map_some->aB, map_eq_some_iff->aG, getD_some->aJ, isSome_some->aN, getD_none->aX, map_map->a6
namespace Go.Pe.Tryz
open Go.Proofs.Tryz Go.Sort
theorem aEn (b o:Off) (w:List UInt8) (n:List Int) (hb:dV b=true) (ho:dV o=true) (h:lkp r6 w=some (n.length:Int)):Fn prog 72 [b.s,o.s,.str w,.sl false 1 (dl iD n)] (aNw (f9 b o w n)):=by
 have hp:=eT ho
 have hl:∀ {v:List UInt8} {m:Int},w=v->lkp r6 v=some m->(n.length:Int)=m:=fun e hm=>by
  rw [e,hm] at h
  injection h with h
  exact h.symm
 rcases qX w with hw|hw|hw|hw|hw|hw|hw|hw|hw|hw|hw|hw|hw
 ·have hI:=wI w 0 (by subst hw; rfl)
  have hn:=hl hw aBK
  rw [(congrArg (f9 b o · n) hw).trans (aOH b o n)]
  obtain ⟨a,rfl⟩:∃ a,n=[a]:=by
   match n,hn with
   | [a],_=>exact ⟨a,rfl⟩
  have hD:=eZ o.day (by simp only [eA]; omega)
  refine c7 qT [] ?_
  dsimp only [qT,cY,dD]
  repeat' (first|(simp only [hI,cM,cU,dC,List.getElem?_cons_zero,List.getElem?_cons_succ,aC,aF,aB,aD,eV,iD,aZw,aZx,↓dK,iC,lS,lR,iS,iB,lO,lQ,iR,cZ,↓wA,↓wC,wB,cQ,cP,bA,bB,bC,reduceIte,reduceCtorEq,aA,bD])|(refine cO (hD) rfl rfl ?_)|(refine cR (hD) rfl rfl ?_)|(with_reducible refine cW ?_ ?_; focus omega)|((first|apply cJ|apply cK|apply cI)<;>intro h<;>try simp only [h]))
  all_goals first|exact jS|exact jR|exact nA
 ·have hI:=wI w 1 (by subst hw; rfl)
  have hn:=hl hw xU
  rw [(congrArg (f9 b o · n) hw).trans (aLo b o n)]
  obtain ⟨a,b',c,rfl⟩:∃ a b' c,n=[a,b',c]:=by
   match n,hn with
   | [a,b',c],_=>exact ⟨a,b',c,rfl⟩
  have hH:=nD o a (fI ho)
  rw [aAH ho] at hH
  rw [show n0 [a,b',c]=a from rfl]
  refine c7 qT [] ?_
  dsimp only [qT,cY,dD]
  repeat' (first|(simp only [hI,cM,cU,dC,List.getElem?_cons_zero,List.getElem?_cons_succ,aC,aF,aB,aD,eV,iD,aZw,aZx,↓dK,iC,lS,lR,iS,iB,lO,lQ,iR,cZ,↓wA,↓wC,wB,cQ,cP,bA,bB,bC,reduceIte,reduceCtorEq,aA,bD])|(refine cO hH (by simp [dH,dQ,aZv]) rfl ?_)|(refine cR hH (by simp [dH,dQ,aZv]) rfl ?_)|(with_reducible refine cW ?_ ?_; focus omega)|((first|apply cJ|apply cK|apply cI)<;>intro h<;>try simp only [h]))
  all_goals first|exact jS|exact jR|exact nA
 ·have hI:=wI w 2 (by subst hw; rfl)
  have hn:=hl hw aBE
  rw [(congrArg (f9 b o · n) hw).trans (aOt b o n)]
  obtain ⟨a,b',rfl⟩:∃ a b',n=[a,b']:=by
   match n,hn with
   | [a,b'],_=>exact ⟨a,b',rfl⟩
  have hH:=nD o a (fI ho)
  rw [aAH ho] at hH
  rw [show n0 [a,b']=a from rfl]
  refine c7 qT [] ?_
  dsimp only [qT,cY,dD]
  repeat' (first|(simp only [hI,cM,cU,dC,List.getElem?_cons_zero,List.getElem?_cons_succ,aC,aF,aB,aD,eV,iD,aZw,aZx,↓dK,iC,lS,lR,iS,iB,lO,lQ,iR,cZ,↓wA,↓wC,wB,cQ,cP,bA,bB,bC,reduceIte,reduceCtorEq,aA,bD])|(refine cO hH (by simp [dH,dQ,aZv]) rfl ?_)|(refine cR hH (by simp [dH,dQ,aZv]) rfl ?_)|(with_reducible refine cW ?_ ?_; focus omega)|((first|apply cJ|apply cK|apply cI)<;>intro h<;>try simp only [h]))
  all_goals first|exact jS|exact jR|exact nA
 ·have hI:=wI w 3 (by subst hw; rfl)
  have hn:=hl hw qY
  rw [(congrArg (f9 b o · n) hw).trans (aE9 b o n)]
  obtain ⟨a,rfl⟩:∃ a,n=[a]:=by
   match n,hn with
   | [a],_=>exact ⟨a,rfl⟩
  have hH:=aAm b a hb
  have hT:=pZ _ (aCS a hb)
  rw [show n0 [a]=a from rfl,aCX a hb]
  refine c7 qT [] ?_
  dsimp only [qT,cY,dD]
  repeat' (first|(simp only [hI,cM,cU,dC,List.getElem?_cons_zero,List.getElem?_cons_succ,aC,aF,aB,aD,eV,iD,dB,aZw,aZx,↓dK,iC,lS,lR,iS,iB,lO,lQ,iR,cZ,↓wA,↓wC,wB,cQ,cP,bA,bB,bC,reduceIte,reduceCtorEq,aA,bD])|(refine cR hH (by simp [dH,dQ,aZv]) rfl ?_)|(refine cO hT (by simp [dH,dQ,D.unown,dW]) rfl ?_)|(refine cR hT (by simp [dH,dQ,D.unown,dW]) rfl ?_)|(with_reducible refine cW ?_ ?_; focus omega)|((first|apply cJ|apply cK|apply cI)<;>intro h<;>try simp only [h]))
  all_goals first|exact jS|exact jR|exact nA
 ·have hI:=wI w 4 (by subst hw; rfl)
  have hn:=hl hw xO
  rw [(congrArg (f9 b o · n) hw).trans (aLn b o n)]
  obtain ⟨a,b',rfl⟩:∃ a b',n=[a,b']:=by
   match n,hn with
   | [a,b'],_=>exact ⟨a,b',rfl⟩
  have hH:=nD o a (fI ho)
  rw [aAH ho] at hH
  rw [show n0 [a,b']=a from rfl]
  refine c7 qT [] ?_
  dsimp only [qT,cY,dD]
  repeat' (first|(simp only [hI,cM,cU,dC,List.getElem?_cons_zero,List.getElem?_cons_succ,aC,aF,aB,aD,eV,iD,aZw,aZx,↓dK,iC,lS,lR,iS,iB,lO,lQ,iR,cZ,↓wA,↓wC,wB,cQ,cP,bA,bB,bC,reduceIte,reduceCtorEq,aA,bD])|(refine cO hH (by simp [dH,dQ,aZv]) rfl ?_)|(refine cR hH (by simp [dH,dQ,aZv]) rfl ?_)|(with_reducible refine cW ?_ ?_; focus omega)|((first|apply cJ|apply cK|apply cI)<;>intro h<;>try simp only [h]))
  all_goals first|exact jS|exact jR|exact nA
 ·have hI:=wI w 5 (by subst hw; rfl)
  have hn:=hl hw aGe
  rw [(congrArg (f9 b o · n) hw).trans (aUV b o n)]
  obtain ⟨a,rfl⟩:∃ a,n=[a]:=by
   match n,hn with
   | [a],_=>exact ⟨a,rfl⟩
  have hT:=pZ _ (aPP ho)
  refine c7 qT [] ?_
  dsimp only [qT,cY,dD]
  repeat' (first|(simp only [hI,cM,cU,dC,List.getElem?_cons_zero,List.getElem?_cons_succ,aC,aF,aB,aD,eV,iD,aZw,aZx,↓dK,iC,lS,lR,iS,iB,lO,lQ,iR,cZ,↓wA,↓wC,wB,cQ,cP,bA,bB,bC,reduceIte,reduceCtorEq,aA,bD])|(refine cO hT rfl rfl ?_)|(with_reducible refine cW ?_ ?_; focus omega)|((first|apply cJ|apply cK|apply cI)<;>intro h<;>try simp only [h]))
  all_goals first|exact jS|exact jR|exact nA
 ·have hI:=wI w 6 (by subst hw; rfl)
  have hn:=hl hw aEC
  rw [(congrArg (f9 b o · n) hw).trans (aTZ b o n)]
  have hD:=eZ o.day (by simp only [eA]; omega)
  refine c7 qT [] ?_
  dsimp only [qT,cY,dD]
  repeat' (first|(simp only [hI,cM,cU,dC,List.getElem?_cons_zero,List.getElem?_cons_succ,aC,aF,aB,aD,eV,iD,aZw,aZx,↓dK,iC,lS,lR,iS,iB,lO,lQ,iR,cZ,↓wA,↓wC,wB,cQ,cP,bA,bB,bC,reduceIte,reduceCtorEq,aA,bD])|(refine cO (hD) rfl rfl ?_)|(refine cR (hD) rfl rfl ?_)|(with_reducible refine cW ?_ ?_; focus omega)|((first|apply cJ|apply cK|apply cI)<;>intro h<;>try simp only [h]))
  all_goals first|exact jS|exact jR|exact nA
 ·have hI:=wI w 7 (by subst hw; rfl)
  have hn:=hl hw aEF
  rw [(congrArg (f9 b o · n) hw).trans (aUA b o n)]
  have hH:=aIQ o ho
  have hT:=pZ _ (aD8 (tK o) ho)
  rw [show aCB (tK o) o=some _ from if_pos ho]
  refine c7 qT [] ?_
  dsimp only [qT,cY,dD]
  repeat' (first|(simp only [hI,cM,cU,dC,List.getElem?_cons_zero,List.getElem?_cons_succ,aC,aF,aB,aD,eV,iD,dB,aZw,aZx,↓dK,iC,lS,lR,iS,iB,lO,lQ,iR,cZ,↓wA,↓wC,wB,cQ,cP,bA,bB,bC,reduceIte,reduceCtorEq,aA,bD])|(refine cO hH (by simp [dH,dQ,aZv]) rfl ?_)|(refine cO hT (by simp [dH,dQ,D.unown,dW]) rfl ?_)|(with_reducible refine cW ?_ ?_; focus omega)|((first|apply cJ|apply cK|apply cI)<;>intro h<;>try simp only [h]))
  all_goals first|exact jS|exact jR|exact nA
 ·have hI:=wI w 8 (by subst hw; rfl)
  have hn:=hl hw oY
  rw [(congrArg (f9 b o · n) hw).trans (aFz b o n)]
  have hH:=aHR o ho
  have hT:=pZ _ (aD8 (sY o) ho)
  rw [show aCB (sY o) o=some _ from if_pos ho]
  refine c7 qT [] ?_
  dsimp only [qT,cY,dD]
  repeat' (first|(simp only [hI,cM,cU,dC,List.getElem?_cons_zero,List.getElem?_cons_succ,aC,aF,aB,aD,eV,iD,dB,aZw,aZx,↓dK,iC,lS,lR,iS,iB,lO,lQ,iR,cZ,↓wA,↓wC,wB,cQ,cP,bA,bB,bC,reduceIte,reduceCtorEq,aA,bD])|(refine cO hH (by simp [dH,dQ,aZv]) rfl ?_)|(refine cO hT (by simp [dH,dQ,D.unown,dW]) rfl ?_)|(with_reducible refine cW ?_ ?_; focus omega)|((first|apply cJ|apply cK|apply cI)<;>intro h<;>try simp only [h]))
  all_goals first|exact jS|exact jR|exact nA
 ·have hI:=wI w 9 (by subst hw; rfl)
  have hn:=hl hw y7
  rw [(congrArg (f9 b o · n) hw).trans (aOy b o n)]
  have hH:=aIa aHU o (fI ho)
  rw [aHM ho] at hH
  have hD:=eZ (aAF o) (m5 aJg)
  rw [aHz ho]
  refine c7 qT [] ?_
  dsimp only [qT,cY,dD]
  repeat' (first|(simp only [hI,cM,cU,dC,List.getElem?_cons_zero,List.getElem?_cons_succ,aC,aF,aB,aD,eV,iD,aZw,aZx,↓dK,iC,lS,lR,iS,iB,lO,lQ,iR,cZ,↓wA,↓wC,wB,cQ,cP,bA,bB,bC,reduceIte,reduceCtorEq,aA,bD])|(refine cO hH (by simp [dH,dQ,aZv]) rfl ?_)|(refine cO (hD) rfl rfl ?_)|(refine cR (hD) rfl rfl ?_)|(with_reducible refine cW ?_ ?_; focus omega)|((first|apply cJ|apply cK|apply cI)<;>intro h<;>try simp only [h]))
  all_goals first|exact jS|exact jR|exact nA
 ·have hI:=wI w 10 (by subst hw; rfl)
  have hn:=hl hw aAe
  rw [(congrArg (f9 b o · n) hw).trans (aPX b o n)]
  obtain ⟨a,rfl⟩:∃ a,n=[a]:=by
   match n,hn with
   | [a],_=>exact ⟨a,rfl⟩
  have hH:=aAm o a ho
  have hT:=pZ _ (aCS a ho)
  rw [show n0 [a]=a from rfl,aCX a ho]
  refine c7 qT [] ?_
  dsimp only [qT,cY,dD]
  repeat' (first|(simp only [hI,cM,cU,dC,List.getElem?_cons_zero,List.getElem?_cons_succ,aC,aF,aB,aD,eV,iD,dB,aZw,aZx,↓dK,iC,lS,lR,iS,iB,lO,lQ,iR,cZ,↓wA,↓wC,wB,cQ,cP,bA,bB,bC,reduceIte,reduceCtorEq,aA,bD])|(refine cR hH (by simp [dH,dQ,aZv]) rfl ?_)|(refine cO hT (by simp [dH,dQ,D.unown,dW]) rfl ?_)|(refine cR hT (by simp [dH,dQ,D.unown,dW]) rfl ?_)|(with_reducible refine cW ?_ ?_; focus omega)|((first|apply cJ|apply cK|apply cI)<;>intro h<;>try simp only [h]))
  all_goals first|exact jS|exact jR|exact nA
 ·have hI:=wI w 11 (by subst hw; rfl)
  have hn:=hl hw zL
  rw [(congrArg (f9 b o · n) hw).trans (aNN b o n)]
  obtain ⟨a,rfl⟩:∃ a,n=[a]:=by
   match n,hn with
   | [a],_=>exact ⟨a,rfl⟩
  have hH:=nD o a (fI ho)
  rw [aAH ho] at hH
  rw [show n0 [a]=a from rfl]
  refine c7 qT [] ?_
  dsimp only [qT,cY,dD]
  repeat' (first|(simp only [hI,cM,cU,dC,List.getElem?_cons_zero,List.getElem?_cons_succ,aC,aF,aB,aD,eV,iD,aZw,aZx,↓dK,iC,lS,lR,iS,iB,lO,lQ,iR,cZ,↓wA,↓wC,wB,cQ,cP,bA,bB,bC,reduceIte,reduceCtorEq,aA,bD])|(refine cO hH (by simp [dH,dQ,aZv]) rfl ?_)|(refine cR hH (by simp [dH,dQ,aZv]) rfl ?_)|(with_reducible refine cW ?_ ?_; focus omega)|((first|apply cJ|apply cK|apply cI)<;>intro h<;>try simp only [h]))
  all_goals first|exact jS|exact jR|exact nA
 ·rw [zG hw] at h; cases h
def qC (o:Off) (q1 q2:Nat) (v1 v2:Value):D:=d5 o (.lnk q1 v1) (.lnk q2 v2)
def oLs (o:Off) (v1 v2:Value):List (Value×Nat×D):=[(v1,4,dl Cs.s o.cs),(v2,1,dl D.str o.led)]
theorem f7 (o:Off) (q1 q2:Nat) (v1 v2:Value):(qC o q1 q2 v1 v2).noOwn=true:=rfl
theorem iX (o:Off) (q1 q2:Nat) (v1 v2:Value):(qC o q1 q2 v1 v2).isV=true:=rfl
theorem gW (o:Off) (q1 q2:Nat) (v1 v2:Value):(qC o q1 q2 v1 v2).size=5:=rfl
theorem fN (o:Off) (q1 q2:Nat) (v1 v2:Value):(qC o q1 q2 v1 v2).unown=qC o q1 q2 v1 v2:=rfl
theorem kE {ob:List Ob} {K:SV->Prop} {o:Off} {q1 q2:Nat} {v1 v2:Value}:fB ob (some 5) (qC o q1 q2 v1 v2) K=K (.d (qC o q1 q2 v1 v2)):=by simp [qC,d5,fB,D.size,D.noOwn]
def sJ (ws:List (List UInt8)) (i:Nat):List Int:=(qR (ws.take i)).getD []
theorem aBu:∀ (l:List (List UInt8)) (s:List UInt8),qR (l ++ [s])=(qR l).bind fun a=>(lP s).map fun n=>a ++ [n]
 | [],s=>by simp only [aR,qR]; cases lP s<;>rfl
 | x :: l,s=>by
  simp only [aM,qR,aBu l s]
  cases lP x with
  | none=>rfl
  | some a=>cases qR l with
   | none=>rfl
   | some b=>cases lP s<;>rfl
theorem aBw {s:List UInt8} (h:lP s=none):∀ l:List (List UInt8),s∈l->qR l=none
 | x :: l,hm=>by
  simp only [qR]
  cases hx:lP x with
  | none=>rfl
  | some a =>
   rcases a7.1 hm with rfl|hm
   ·rw [h] at hx; cases hx
   ·rw [aBw h l hm]; rfl
theorem wS:∀ {l:List (List UInt8)} {n:List Int},qR l=some n->n.length=l.length
 | [],n,h=>by injection h with h; subst h; rfl
 | x :: l,n,h=>by
  simp only [qR] at h
  split at h
  ·cases hn:qR l with
   | none=>rw [hn] at h; cases h
   | some m=>rw [hn] at h; injection h with h; subst h; simp [wS hn]
  ·cases h
theorem aGJ:∀ {l:List (List UInt8)} {n:List Int},qR l=some n->∀ x∈n,-999999<=x/\x<=999999
 | [],n,h=>by injection h with h; subst h; intro x hx; cases hx
 | y :: l,n,h=>by
  simp only [qR] at h
  split at h
  ·rename_i a ha
   cases hn:qR l with
   | none=>rw [hn] at h; cases h
   | some m =>
    rw [hn] at h; injection h with h; subst h
    intro x hx
    rcases a7.1 hx with rfl|hx
    ·exact (vD ha).2
    ·exact aGJ hn x hx
  ·cases h
def s8 (o:Off) (w:List UInt8) (ws:List (List UInt8)):Option (Option Off×List UInt8) :=
 match qR ws with
 | none=>none
 | some n=>if lkp r6 w=some (n.length:Int) then
   (match nH w n with
   | some s=>match iO o s.k s.i s.a s.v with
    | some q=>(f9 o q w n).map fun r=>(some q,r)
    | none=>none
   | none=>(f9 o o w n).map fun r=>(none,r))
  else none
theorem aVO (o:Off) (w:List UInt8) (ws:List (List UInt8)):r4 o w ws=(s8 o w ws).map fun x=>(x.1.getD o,x.2):=by
 unfold r4 s8
 cases qR ws with
 | none=>rfl
 | some n =>
  simp only
  split
  ·cases nH w n with
   | none=>simp only [a6]; rfl
   | some s =>
    simp only
    cases iO o s.k s.i s.a s.v with
    | none=>rfl
    | some q=>simp only [a6]; rfl
  ·rfl
def aPt (l:D) (x:Option (Option Off×List UInt8)):List D:=match x with
 | none=>[l,.str [],.bool false]
 | some (some q,r)=>[q.o,.str r,.bool true]
 | some (none,r)=>[l,.str r,.bool true]
theorem aBl {P:PG} {s:St} {KK:SV->St->Prop} {f:FuncId} {args:List Opd} {ss:List SV} {ds rs:List D} {L:List (Value×Nat×D)} (hf:FnL P f L ds (fun qs=>qs=rs)) (ha:dH s.o ss=some ds) (hL:pI s.o L) (ho:rs.all D.allOwn=true) (hk:KK (n8 (eG rs s.o).1) ⟨s.e,(eG rs s.o).2⟩):kX P s f args ss KK :=
 aVE hf ha hL fun _ e=>by subst e; exact ⟨ho,hk⟩
theorem rU {ob:List Ob} {o:Off} {q1 q2 r1 r2:Nat} {v1 v2:Value} {ss:List SV} {K:List D->Prop} (h1:ob[q1]?=some (.tag r1 v1)) (h2:ob[r1]?=some (.val (.sl false 4 (dl Cs.s o.cs)))) (h3:ob[q2]?=some (.tag r2 v2)) (h4:ob[r2]?=some (.val (.sl false 1 (dl D.str o.led))))
  (h:vZ ob ss fun ys=>K (o.s :: ys)):vZ ob (.d (qC o q1 q2 v1 v2) :: ss) K:=by
 refine ⟨r1,false,4,dl Cs.s o.cs,h1,h2,r2,false,1,dl D.str o.led,h3,h4,?_⟩
 have e1:(D.sl false 4 (dl Cs.s o.cs)).unown=.sl false 4 (dl Cs.s o.cs):=by simp [D.unown,gG]
 have e2:(D.sl false 1 (dl D.str o.led)).unown=.sl false 1 (dl D.str o.led):=by simp [D.unown,fF]
 rw [e1,e2]
 exact h
theorem aFR {ob:List Ob} {r:Nat} {n:List Int} {ss:List SV} {K:List D->Prop} (h1:ob[r]?=some (.val (.sl true 1 (dl iD n)))) (h:vZ ob ss fun ys=>K (.sl false 1 (dl iD n) :: ys)):vZ ob (.own r :: ss) K:=by
 refine ⟨_,h1,?_⟩
 rw [show (D.sl true 1 (dl iD n)).unown=.sl false 1 (dl iD n) by simp [D.unown,dW]]
 exact h
theorem aFq {ob:List Ob} {x:List UInt8} {ss:List SV} {K:List D->Prop} (h:vZ ob ss fun ys=>K (.str x :: ys)):vZ ob (.d (.str x) :: ss) K:=h
theorem aHp {r:List UInt8} {rs:List D} (h:aNw (some r) rs):rs=[.str r,.bool true]:=by
 obtain ⟨t,rfl,ht⟩:=h
 rw [ht r rfl]; rfl
theorem aMZ {rs:List D} (h:aNw none rs):∃ t,rs=[.str t,.bool false]:=by
 obtain ⟨t,rfl,_⟩:=h
 exact ⟨t,rfl⟩
theorem aJH {o q:Off} {w:List UInt8} {n:List Int} {s:Stp} (h:nH w n=some s) (hq:iO o s.k s.i s.a s.v=some q):∃ r,f9 o q w n=some r:=by
 rcases qX w with rfl|rfl|rfl|rfl|rfl|rfl|rfl|rfl|rfl|rfl|rfl|rfl|hn
 ·exact ⟨_,aOH o q n⟩
 ·rw [aLo]; rw [aLw] at h; injection h with h; subst h; exact o7 (.inl rfl) hq
 ·rw [aOt]; rw [aQa] at h; injection h with h; subst h; exact o7 (.inr (.inl rfl)) hq
 ·rw [aE9]; rw [aFS] at h; injection h with h; subst h
  obtain ⟨l,hl⟩:=aFs hq
  rw [hl]; exact ⟨_,rfl⟩
 ·rw [aLn]; rw [aLq] at h; injection h with h; subst h; exact o7 (.inr (.inr rfl)) hq
 ·exact ⟨_,aUV o q n⟩
 ·rw [aPi] at h; cases h
 ·rw [aQc] at h; cases h
 ·rw [aBG] at h; cases h
 ·rw [aKs] at h; cases h
 ·rw [aKm] at h; cases h
 ·rw [aJo] at h; cases h
 ·obtain ⟨h0,h1,h2,h3,h4,h5,_⟩:=hn
  unfold nH at h
  rw [if_neg h0,if_neg h1,if_neg h2,if_neg h3,if_neg h4,if_neg h5] at h
  cases h
theorem aMa (o:Off) (v1 v2:Value) (w:List UInt8) (ws:List (List UInt8)) (ho:dV o=true) (hl:ws.length<=1000) (hs:∀ s∈ws,s.length<=1000) :
  FnL prog 35 (oLs o v1 v2) [qC o 2 3 v1 v2,.sl false 1 (dl D.str (w :: ws))] (fun rs=>rs=aPt (qC o 2 3 v1 v2) (s8 o w ws)):=by
 have hoz:aCr.o.size=5:=rfl
 have hqo:∀ q:Off,q.o.noOwn=false:=aZQ
 have hfold:(D.st (.cons (.int .i64 o.day) (.cons (.sl false 4 (dl Cs.s o.cs)) (.cons (.int .i64 o.kept) (.cons (.int .i64 o.moved) (.cons (.sl false 1 (dl D.str o.led)) .nil))))))=o.s:=rfl
 have hsub:((w :: ws).take (ws.length + 1)).drop (Int.toNat 1)=ws:=by simp
 refine aV2 aWU [[1,1,1,1,1,1,0,1,1,0,0]] ?_
 dsimp only [aWU,cY,dD]
 simp only [oLs,aAi,pX,wY,aT,a8,aM,aR]
 repeat' (first|(simp only [cM,f7,iX,gW,fN,↓kE,cU,rA,hsub,cZ,aC,↓wA,↓wC,wB,cQ,cP,bA,bB,bC,reduceIte,reduceCtorEq,aA,bD,dJ])|(with_reducible refine cW ?_ ?_; focus omega)|((first|apply cJ|apply cK|apply cI)<;>intro h<;>try simp only [h]))
 refine sI [(7,1)] ws.length (fun i:Nat=>⟨[(1,.d (.sl false 1 (dl D.str (w :: ws)))),(2,.ptr 4 0 []),(4,.ptr 5 0 []),(7,.own 6),(23,.d (.sl false 1 (dl D.str ws))),(24,.d (.int .i64 ws.length)),(25,.d (.int .i64 i))],[.val (.sl false 4 (dl Cs.s o.cs)),.val (.sl false 1 (dl D.str o.led)),.tag 0 v1,.tag 1 v2,.box (qC o 2 3 v1 v2),.box aCr.o,.val (.sl true 1 (dl iD (sJ ws i)))]⟩) (fun i=>qR (ws.take i)=some (sJ ws i)) ⟨rfl,trivial⟩ (cX _ rfl ⟨⟨rfl,rfl⟩,⟨rfl,rfl⟩,⟨rfl,rfl⟩,⟨rfl,rfl⟩,⟨rfl,rfl⟩,⟨rfl,rfl⟩,⟨rfl,rfl⟩,trivial⟩) rfl ?_ ?_
 ·intro i hlt hin hd h0
  obtain ⟨s,hr⟩:=dS hlt
  have hP:=aJj s (by have:=hs s (aL hr); omega)
  have hlen:=wS hin
  rw [aV,aY (by omega)] at hlen
  unfold rdR at hP
  cases hn:lP s with
  | none =>
   rw [hn] at hP
   have hg:s8 o w ws=none:=by unfold s8; rw [aBw hn ws (aL hr)]
   rw [hg]
   repeat' (first|(simp only [hd,h0,hr,aK,aB,cM,cU,dC,f7,iX,gW,fN,↓kE,↓wA,↓wC,wB,cQ,cP,bA,bB,bC,reduceIte,reduceCtorEq,aA,bD,dJ])|(refine cO (hP) rfl rfl ?_)|(refine cR (hP) rfl rfl ?_)|((first|apply cJ|apply cK|apply cI)<;>intro h<;>try simp only [h]))
   exact cW rfl (cW rfl (eY _ rfl rfl))
  | some n =>
   rw [hn] at hP
   have hu:qR (ws.take (i + 1))=some (sJ ws i ++ [n]):=by rw [fY hr,aBu,hin,hn]; rfl
   have hu2:sJ ws (i + 1)=sJ ws i ++ [n]:=by unfold sJ at hu ⊢; rw [hu]; rfl
   repeat' (first|(simp only [hd,h0,hr,aK,aB,cM,cU,dC,f7,iX,gW,fN,↓kE,↓wA,↓wC,wB,cQ,cP,bA,bB,bC,reduceIte,reduceCtorEq,aA,bD,dJ])|(refine cO (hP) rfl rfl ?_)|(refine cR (hP) rfl rfl ?_)|(refine cW (fun e=>by cases e) ?_)|(with_reducible refine cW ?_ ?_; focus omega)|(with_reducible refine cV ?_ ?_; focus (simp only [eA]; omega))|((first|apply cJ|apply cK|apply cI)<;>intro h<;>try simp only [h]))
   refine ⟨i + 1,?_,⟨by omega,by rw [hu2]; exact hu⟩,by omega⟩
   rw [hu2,<-iT (f:=iD)]
   exact (cX _ rfl ⟨⟨rfl,rfl⟩,⟨rfl,rfl⟩,⟨rfl,rfl⟩,⟨rfl,rfl⟩,⟨rfl,rfl⟩,⟨rfl,rfl⟩,⟨rfl,rfl⟩,trivial⟩)
 ·intro hin hd
  rw [aW] at hin
  have hbd:=aGJ hin
  have hlen:=wS hin
  generalize sJ ws ws.length=n at hin hbd hlen
  have hw0:(w :: ws)[0]?=some w:=rfl
  cases hk:lkp r6 w with
  | none =>
   have hg:s8 o w ws=none:=by unfold s8; rw [hin]; simp only [hk]; exact if_neg (fun e=>by cases e)
   rw [hg]
   repeat' (first|(simp only [hd,cM,dC,hw0,hk,aH,aB,Option.isSome_none,f7,iX,gW,fN,↓kE,↓wA,↓wC,wB,cQ,cP,bA,bB,bC,reduceIte,reduceCtorEq,aA,bD,dJ])|(with_reducible refine cW ?_ ?_; focus omega)|(refine cW rfl ?_)|((first|apply cJ|apply cK|apply cI)<;>intro h<;>try simp only [h]))
   exact eY _ rfl rfl
  | some m =>
   by_cases hm:m=(n.length:Int)
   ·subst hm
    have hdm:decide ((n.length:Int)=(n.length:Int))=true:=decide_eq_true rfl
    have hF:=aJD w n hk
    cases hst:nH w n with
    | none =>
     rw [hst] at hF
     simp only [aVD,lG] at hF
     have hR:=aEn o o w n ho ho hk
     cases hr:f9 o o w n with
     | none =>
      rw [hr] at hR
      have hg:s8 o w ws=none:=by unfold s8; rw [hin]; simp [hk,hst,hr]
      rw [hg]
      repeat' (first|(simp only [hd,cM,dC,cU,hw0,hk,hdm,aH,aB,aN,aJ,f7,iX,gW,fN,↓kE,↓wA,↓wC,wB,cQ,cP,bA,bB,bC,reduceIte,reduceCtorEq,aA,bD,dJ])|(with_reducible refine cW ?_ ?_; focus omega)|(refine cW rfl ?_)|(refine cO hF (by simp [dH,dQ,l9,D.unown,dW]) rfl ?_)|(refine dN ?_)|(with_reducible refine aE ?_ ?_)|((first|apply cJ|apply cK|apply cI)<;>intro h<;>try simp only [h]))
      all_goals
       refine aC4 (rU rfl rfl rfl rfl (rU rfl rfl rfl rfl (aFq (aFR rfl ⟨_,hR,?_⟩))))
       intro rs h
       obtain ⟨t,rfl⟩:=aMZ h
       refine ⟨rfl,?_⟩
       repeat' (first|(simp only [cM,f7,iX,gW,fN,↓kE,↓wA,↓wC,wB,cQ,cP,bA,bB,bC,reduceIte,reduceCtorEq,aA,bD,dJ])|((first|apply cJ|apply cK|apply cI)<;>intro h<;>try simp only [h]))
       exact cW rfl (cW rfl (eY _ rfl rfl))
     | some r =>
      rw [hr] at hR
      have hg:s8 o w ws=some (none,r):=by unfold s8; rw [hin]; simp [hk,hst,hr]
      rw [hg]
      repeat' (first|(simp only [hd,cM,dC,cU,hw0,hk,hdm,aH,aB,aN,aJ,f7,iX,gW,fN,↓kE,↓wA,↓wC,wB,cQ,cP,bA,bB,bC,reduceIte,reduceCtorEq,aA,bD,dJ])|(with_reducible refine cW ?_ ?_; focus omega)|(refine cW rfl ?_)|(refine cO hF (by simp [dH,dQ,l9,D.unown,dW]) rfl ?_)|(refine dN ?_)|(with_reducible refine aE ?_ ?_)|((first|apply cJ|apply cK|apply cI)<;>intro h<;>try simp only [h]))
      all_goals
       refine aC4 (rU rfl rfl rfl rfl (rU rfl rfl rfl rfl (aFq (aFR rfl ⟨_,hR,?_⟩))))
       intro rs h
       obtain rfl:=aHp h
       refine ⟨rfl,?_⟩
       repeat' (first|(simp only [cM,f7,iX,gW,fN,↓kE,↓wA,↓wC,wB,cQ,cP,bA,bB,bC,reduceIte,reduceCtorEq,aA,bD,dJ])|((first|apply cJ|apply cK|apply cI)<;>intro h<;>try simp only [h]))
       exact cW rfl (cW rfl (eY _ rfl rfl))
    | some s =>
     rw [hst] at hF
     simp only [aVD,lG] at hF
     have hT:=aIo o s.k s.i s.a s.v (fI ho)
     cases hq:iO o s.k s.i s.a s.v with
     | none =>
      rw [hq] at hT
      simp only [uP,lG] at hT
      have hg:s8 o w ws=none:=by unfold s8; rw [hin]; simp [hk,hst,hq]
      rw [hg]
      repeat' (first|(simp only [hd,cM,dC,cU,hw0,hk,hdm,aH,aB,aN,aJ,f7,iX,gW,fN,↓kE,↓wA,↓wC,wB,cQ,cP,bA,bB,bC,reduceIte,reduceCtorEq,aA,bD,dJ])|(with_reducible refine cW ?_ ?_; focus omega)|(refine cW rfl ?_)|(refine cO hF (by simp [dH,dQ,l9,D.unown,dW]) rfl ?_)|((first|apply cJ|apply cK|apply cI)<;>intro h<;>try simp only [h]))
      refine dF (gJ.refl _) ?_
      repeat' (first|(simp only [cM,f7,iX,gW,fN,↓kE,↓wA,↓wC,wB,cQ,cP,bA,bB,bC,reduceIte,reduceCtorEq,aA,bD,dJ])|((first|apply cJ|apply cK|apply cI)<;>intro h<;>try simp only [h]))
      refine aC4 (rU rfl rfl rfl rfl ⟨_,hT,?_⟩)
      rintro _ rfl
      refine ⟨by simp [aZR,D.allOwn],?_⟩
      repeat' (first|(simp only [cM,hqo,aZP,aZN,f7,iX,gW,fN,↓kE,↓wA,↓wC,wB,cQ,cP,bA,bB,bC,reduceIte,reduceCtorEq,aA,bD,dJ])|(refine cW rfl ?_)|((first|apply cJ|apply cK|apply cI)<;>intro h<;>try simp only [h]))
      exact eY _ rfl rfl
     | some q =>
      rw [hq] at hT
      simp only [uP,lG] at hT
      obtain ⟨r,hr⟩:=aJH hst hq
      have hg:s8 o w ws=some (some q,r):=by unfold s8; rw [hin]; simp [hk,hst,hq,hr]
      rw [hg]
      have hR:=aEn o q w n ho (w3 hq) hk
      rw [hr] at hR
      have hR:=aSg hR fun _ h=>aHp h
      repeat' (first|(simp only [hd,cM,dC,cU,hw0,hk,hdm,aH,aB,aN,aJ,f7,iX,gW,fN,↓kE,↓wA,↓wC,wB,cQ,cP,bA,bB,bC,reduceIte,reduceCtorEq,aA,bD,dJ])|(with_reducible refine cW ?_ ?_; focus omega)|(refine cW rfl ?_)|(refine cO hF (by simp [dH,dQ,l9,D.unown,dW]) rfl ?_)|((first|apply cJ|apply cK|apply cI)<;>intro h<;>try simp only [h]))
      refine dF (s':=⟨[(1,.d (.sl false 1 (dl D.str (w :: ws)))),(2,.ptr 4 0 []),(4,.ptr 5 0 []),(7,.own 6),(15,.ptr 8 0 []),(16,.ptr 9 0 [])],[.dead,.dead,.tag 0 v1,.tag 1 v2,.box o.s,.box aCr.o,.val (.sl true 1 (dl iD n)),.mp r6,.box (qC o 2 3 v1 v2),.box (lG s.k s.i s.a s.v)]⟩) ((i7 4 2 0 none [1] rfl rfl rfl rfl (by decide) rfl).trans ((i7 4 3 1 none [4] rfl rfl rfl rfl (by decide) rfl).trans (cX [] rfl ⟨⟨rfl,rfl⟩,⟨rfl,rfl⟩,⟨rfl,rfl⟩,⟨rfl,rfl⟩,⟨rfl,rfl⟩,⟨rfl,rfl⟩,trivial⟩))) ?_
      simp only [lG]
      repeat' (first|(simp only [cM,hqo,aZw,aZx,aZB,↓dK,aZP,aZN,↓wA,↓wC,wB,cQ,cP,bA,bB,bC,reduceIte,reduceCtorEq,aA,bD,dJ])|(refine cW rfl ?_)|(refine dN ?_)|(with_reducible refine aE ?_ ?_)|(refine cO hT (by simp [dH,dQ,aZv]) rfl ?_)|((first|apply cJ|apply cK|apply cI)<;>intro h<;>try simp only [h]))
      refine eY (.cons (.int .i64 q.day) (.cons (.sl true 4 (dl Cs.o q.cs)) (.cons (.int .i64 q.kept) (.cons (.int .i64 q.moved) (.cons (.sl true 1 (dl D.str q.led)) .nil))))) rfl (cW rfl (cW rfl ?_))
      rw [show D.st (.cons (.int .i64 q.day) (.cons (.sl true 4 (dl Cs.o q.cs)) (.cons (.int .i64 q.kept) (.cons (.int .i64 q.moved) (.cons (.sl true 1 (dl D.str q.led)) .nil)))))=q.o from rfl]
      repeat' (first|(simp only [cM,dC,hw0,aH,aB,hqo,aZw,aZx,aZB,↓dK,aZP,aZN,↓wA,↓wC,wB,cQ,cP,bA,bB,bC,reduceIte,reduceCtorEq,aA,bD,dJ])|(with_reducible refine cW ?_ ?_; focus omega)|(refine cW rfl ?_)|(refine dN ?_)|(with_reducible refine aE ?_ ?_)|(refine cO hR (by show some [o.s,q.o.unown,D.str w,(D.sl true 1 (dl iD n)).unown]=_; rw [aZI]; simp [D.unown,dW]) rfl ?_)|((first|apply cJ|apply cK|apply cI)<;>intro h<;>try simp only [h]))
      all_goals exact eY _ rfl (cW rfl (cW rfl (cW rfl rfl)))
   ·have hdm:decide (m=(n.length:Int))=false:=decide_eq_false hm
    have hg:s8 o w ws=none:=by unfold s8; rw [hin]; simp only [hk]; exact if_neg (fun e=>by injection e with e; exact hm e)
    rw [hg]
    repeat' (first|(simp only [hd,cM,dC,cU,hw0,hk,hdm,aH,aB,aN,aJ,f7,iX,gW,fN,↓kE,↓wA,↓wC,wB,cQ,cP,bA,bB,bC,reduceIte,reduceCtorEq,aA,bD,dJ])|(with_reducible refine cW ?_ ?_; focus omega)|(refine cW rfl ?_)|((first|apply cJ|apply cK|apply cI)<;>intro h<;>try simp only [h]))
    exact eY _ rfl rfl
theorem aKA (q1 q2 q3 q4:Nat) (o:Off) (v1 v2:Value) (w:List UInt8) (ws:List (List UInt8)) (ho:dV o=true) (hl:ws.length<=1000) (hs:∀ s∈ws,s.length<=1000) :
  FnL prog 35 (oLs o v1 v2) [qC o q1 q2 v1 v2,.sl false 1 (dl D.str (w :: ws))] (fun rs=>rs=aPt (qC o q3 q4 v1 v2) (s8 o w ws)):=by
 intro M vs w0 hM hg hL hv
 refine (aMa o v1 v2 w ws ho hl hs M vs w0 hM hg hL hv).mono ?_
 rintro e w' ⟨rs,us,fp,h1,rfl,h2,h3⟩
 refine ⟨_,us,fp,h1,rfl,?_,h3⟩
 cases ha:s8 o w ws with
 | none=>rw [ha] at h2; exact h2
 | some y =>
  obtain ⟨_|q,r⟩:=y
  ·rw [ha] at h2; exact h2
  ·rw [ha] at h2; exact h2
def aBs (d p:List UInt8) (k:Int) (c r:List UInt8):List UInt8×List UInt8×Int :=
 if lv d p k=true/\fS c r=true then (if k=60 then (d,p,k) else (d,p ++ (iW k c r ++ [10]),k + 1)) else (d,p,k)
theorem uZ (d p:List UInt8) (k:Int) (c r:List UInt8):∃ n,aER d p k c r=[eQ (aBs d p k c r).1 (aBs d p k c r).2.1 (aBs d p k c r).2.2,.int .i64 n]:=by
 unfold aER aBs
 split
 ·split<;>exact ⟨_,rfl⟩
 ·exact ⟨_,rfl⟩
def yE (r:List UInt8):List UInt8:=if 200 < (r.length:Int) then [108,111,110,103] else r
def exA (x:Con) (l:List UInt8) (a:Option (Off×List UInt8)):Con×List UInt8 :=
 let r:=yE ((a.map (·.2)).getD qm)
 let g:=aBs x.d x.p x.c l r
 (⟨(a.map (·.1)).getD x.o,g.1,g.2.1,g.2.2⟩,r)
def jO (x:Con) (l:List UInt8):Con×List UInt8 :=
 if gO x=true then
  if fS l []=true then
   if x.c=60 then (x,[102,117,108,108]) else exA x l (r4 x.o ((parts 32 l).headD []) (parts 32 l).tail)
  else (x,[98,97,100])
 else (x,[110,111])
theorem aAM (x:UInt8) (s:List UInt8):∃ w ws,parts x s=w :: ws:=by
 have h:=rT x s
 cases hp:parts x s with
 | nil=>rw [hp] at h; cases h
 | cons w ws=>exact ⟨w,ws,rfl⟩
theorem aDa (x:Con) (h:x.ok0):Fn prog 33 [x.s] (fun rs=>rs=[x.o']):=by
 have hC:=yQ x.o h.1
 refine c7 aYm [[1,0]] ?_
 dsimp only [aYm,cY,dD]
 repeat' (first|(simp only [aZy,aZz,cM,↓wA,↓wC,wB,cQ,cP,bA,bB,bC,reduceIte,reduceCtorEq,aA,bD,eL])|((first|apply cJ|apply cK|apply cI)<;>intro h<;>try simp only [h]))
 refine dF (iV 0 rfl) ?_
 simp only [cQ,cP,aZC,↓wA,↓wC,wB,cQ,cP,bA,bB,bC,reduceIte,reduceCtorEq,aA,bD,eL]
 repeat' (first|(simp only [gA,xW,sH,jU,vQ,j5,eI,fC,fQ,↓dK,↓gK,aZy,aZz,aZw,aZx,aZP,aZN,aZQ,cM,↓wA,↓wC,wB,cQ,cP,bA,bB,bC,reduceIte,reduceCtorEq,aA,bD,eL])|(refine cW rfl ?_)|(refine dN ?_)|(with_reducible refine aE ?_ ?_)|(refine cO hC (by simp [dH,dQ,aZv]) rfl ?_)|((first|apply cJ|apply cK|apply cI)<;>intro h<;>try simp only [h]))
 all_goals rfl
def aEe:D:=tC aCr.o (eQ [] [] 0)
theorem aZK (x:Con):x.o'.noOwn=false:=by simp [Con.o',tC,D.noOwn,aZQ]
theorem aKF {x:Con} {l:List UInt8} (h:gO x=false):jO x l=(x,[110,111]):=by unfold jO; rw [if_neg (by rw [h]; decide)]
theorem aGk {x:Con} {l:List UInt8} (h:gO x=true) (h2:fS l []=false):jO x l=(x,[98,97,100]):=by unfold jO; rw [if_pos h,if_neg (by rw [h2]; decide)]
theorem aDx {x:Con} {l:List UInt8} (h:gO x=true) (h2:fS l []=true) (h3:x.c=60):jO x l=(x,[102,117,108,108]):=by unfold jO; rw [if_pos h,if_pos h2,if_pos h3]
theorem aKN {x:Con} {l w:List UInt8} {ws:List (List UInt8)} (h:gO x=true) (h2:fS l []=true) (h3:¬ x.c=60) (hp:parts 32 l=w :: ws):jO x l=exA x l (r4 x.o w ws):=by
 unfold jO; rw [if_pos h,if_pos h2,if_neg h3,hp]; rfl
theorem aIp (x:Con) (l:List UInt8) (h:x.ok0) (hl:l.length<=1048576):Fn prog 8 [x.s,.str l] (fun rs=>rs=[(jO x l).1.o',.str (jO x l).2]):=by
 have hV:=jY x h
 have hC:=aDa x h
 have hml:l.length<=maxLen:=by rw [eP]; omega
 have hR:=o8 l [] hml (by rw [eP]; decide)
 cases hv:gO x with
 | false =>
  rw [hv] at hV
  rw [aKF hv]
  refine c7 ef8 [] ?_
  dsimp only [ef8,cY,dD]
  repeat' (first|(simp only [aZy,aZz,aZA,↓dY,aZK,aZO,aZL,cM,↓wA,↓wC,wB,cQ,cP,bA,bB,bC,reduceIte,reduceCtorEq,aA,bD,eL])|(refine cW rfl ?_)|(refine cO hV (by simp [dH,dQ,aZC]) rfl ?_)|(refine cO hC (by simp [dH,dQ,aZC]) rfl ?_)|((first|apply cJ|apply cK|apply cI)<;>intro h<;>try simp only [h]))
  exact eY _ rfl rfl
 | true =>
  rw [hv] at hV
  cases hr:fS l [] with
  | false =>
   rw [hr] at hR
   rw [aGk hv hr]
   refine c7 ef8 [] ?_
   dsimp only [ef8,cY,dD]
   repeat' (first|(simp only [aZy,aZz,aZA,↓dY,aZK,aZO,aZL,cM,↓wA,↓wC,wB,cQ,cP,bA,bB,bC,reduceIte,reduceCtorEq,aA,bD,eL])|(refine cW rfl ?_)|(refine cO hV (by simp [dH,dQ,aZC]) rfl ?_)|(refine cO hC (by simp [dH,dQ,aZC]) rfl ?_)|(refine cO hR rfl rfl ?_)|((first|apply cJ|apply cK|apply cI)<;>intro h<;>try simp only [h]))
   exact eY _ rfl rfl
  | true =>
   rw [hr] at hR
   by_cases hc:x.c=60
   ·have hd:decide (x.c=60)=true:=decide_eq_true hc
    rw [aDx hv hr hc]
    refine c7 ef8 [] ?_
    dsimp only [ef8,cY,dD]
    repeat' (first|(simp only [hd,lE,lC,aZy,aZz,aZA,↓dY,aZK,aZO,aZL,cM,↓wA,↓wC,wB,cQ,cP,bA,bB,bC,reduceIte,reduceCtorEq,aA,bD,eL])|(refine cW rfl ?_)|(refine cO hV (by simp [dH,dQ,aZC]) rfl ?_)|(refine cO hC (by simp [dH,dQ,aZC]) rfl ?_)|(refine cO hR rfl rfl ?_)|((first|apply cJ|apply cK|apply cI)<;>intro h<;>try simp only [h]))
    exact eY _ rfl rfl
   ·have hd:decide (x.c=60)=false:=decide_eq_false hc
    obtain ⟨w,ws,hp⟩:=aAM 32 l
    rw [aKN hv hr hc hp]
    have hP:=aIM l 32 (by omega)
    rw [hp] at hP
    refine c7 ef8 [[1,1,1,1,1,0,0],[1,1,1,1,1,0,0],[1,1,1,0],[1,1,1,0],[1,1,1,0]] ?_
    dsimp only [ef8,cY,dD]
    repeat' (first|(simp only [hd,lE,lC,aZy,aZz,aZA,↓dY,aZK,aZO,aZL,cM,↓wA,↓wC,wB,cQ,cP,bA,bB,bC,reduceIte,reduceCtorEq,aA,bD,eL])|(refine cW rfl ?_)|(refine cO hV (by simp [dH,dQ,aZC]) rfl ?_)|(refine cO hC (by simp [dH,dQ,aZC]) rfl ?_)|(refine cO hR rfl rfl ?_)|((first|apply cJ|apply cK|apply cI)<;>intro h<;>try simp only [h]))
    refine fG _ (f8 3 none [0,1] (es:=4) (xs:=dl Cs.o x.o.cs) rfl rfl) fun v1=>?_
    simp only [eS,c8,cZ,eI,cM,↓wA,↓wC,wB,cQ,cP,bA,bB,bC,reduceIte,reduceCtorEq,aA,bD,eL]
    refine fG _ (f8 3 none [0,4] (es:=1) (xs:=dl D.str x.o.led) rfl rfl) fun v2=>?_
    simp only [eS,c8,cZ,eI,cM,↓wA,↓wC,wB,cQ,cP,bA,bB,bC,reduceIte,reduceCtorEq,aA,bD,eL]
    refine dF (s':=⟨[(1,.d (.str l)),(4,.ptr 1 0 []),(6,.ptr 3 0 [])],[.box x.s,.box aEe,.dead,.box (tC (qC x.o 5 7 v1 v2) (eQ x.d x.p x.c)),.val (.sl true 4 (dl Cs.o x.o.cs)),.tag 4 v1,.val (.sl true 1 (dl D.str x.o.led)),.tag 6 v2]⟩) (cX _ rfl ⟨⟨rfl,rfl⟩,⟨rfl,rfl⟩,⟨rfl,rfl⟩,trivial⟩) ?_
    have hso:=kJ hr
    have hws:∀ s∈w :: ws,s.length<=1000:=fun s hs=>by
     rw [<- hp] at hs
     have:=rI 32 l s hs
     omega
    have hwl:ws.length<=1000:=by
     have h1:=aBi 32 l
     rw [hp,aC] at h1
     omega
    have hoff:dV x.o=true:=by
     simp only [gO,aI] at hv
     exact hv.1
    have hA:=aKA 5 7 5 7 x.o v1 v2 w ws hoff hwl (fun s hs=>hws s (aS _ hs))
    have hg0:gC [0] (tC (qC x.o 5 7 v1 v2) (eQ x.d x.p x.c))=some (qC x.o 5 7 v1 v2):=rfl
    have hg1:fJ [0] (tC (qC x.o 5 7 v1 v2) (eQ x.d x.p x.c))=0:=rfl
    rw [aVO]
    cases ha:s8 x.o w ws with
    | none =>
     rw [ha] at hA
     simp only [aPt] at hA
     repeat' (first|(simp only [cM,hg0,hg1,f7,iX,gW,fN,↓kE,↓wA,↓wC,wB,cQ,cP,bA,bB,bC,reduceIte,reduceCtorEq,aA,bD,eL])|(refine cW rfl ?_)|(refine dN ?_)|(with_reducible refine aE ?_ ?_)|(refine cO hP rfl rfl ?_)|(refine aBl hA (by simp [dH,dQ,l9,D.unown,yA,fN]) ⟨⟨5,4,true,dl Cs.o x.o.cs,rfl,rfl,(tP _).symm⟩,⟨7,6,true,dl D.str x.o.led,rfl,rfl,(fF _).symm⟩,trivial⟩ (by simp [D.allOwn,aZR,qC,d5]) ?_)|((first|apply cJ|apply cK|apply cI)<;>intro h<;>try simp only [h]))
     all_goals
      refine dF (i7 3 5 4 none [0,1] (v:=v1) (ow:=true) (es:=4) (xs:=dl Cs.o x.o.cs) (ob:=.box (tC (qC x.o 5 7 v1 v2) (eQ x.d x.p x.c))) (ob':=.box (tC (d5 x.o (.sl true 4 (dl Cs.o x.o.cs)) (.lnk 7 v2)) (eQ x.d x.p x.c))) rfl rfl rfl rfl (by decide) rfl) ?_
      simp only [↓wA,↓wC,wB,cQ,cP,bA,bB,bC,reduceIte,reduceCtorEq,aA,bD,eL]
      refine dF (i7 3 7 6 none [0,4] (v:=v2) (ow:=true) (es:=1) (xs:=dl D.str x.o.led) (ob:=.box (tC (d5 x.o (.sl true 4 (dl Cs.o x.o.cs)) (.lnk 7 v2)) (eQ x.d x.p x.c))) (ob':=.box x.o') rfl rfl rfl rfl (by decide) rfl) ?_
      simp only [Option.map_none,aX,exA]
      have hdl:decide ((200:Int) < ((1:Nat):Int))=false:=rfl
      rw [show yE qm=[63] from rfl]
      have hs1:gC [1] (x).o'=some (eQ x.d x.p x.c):=rfl
      have hs2:fJ [1] (x).o'=5:=rfl
      have hds:∀ a b c,j8 [1] (x).o' (eQ a b c)=(Con.mk (x).o a b c).o':=fun _ _ _=>rfl
      obtain ⟨nn,hap⟩:=uZ x.d x.p x.c l [63]
      have hAp:=mT x.d x.p x.c l [63] h.2 hml (by rw [eP]; first|decide|omega)
      rw [hap] at hAp
      simp only [mM] at hAp
      repeat' (first|(simp only [cM,hs1,hs2,hds,hdl,eI,fC,fQ,↓gK,aZK,aZO,aZL,↓wA,↓wC,wB,cQ,cP,bA,bB,bC,reduceIte,reduceCtorEq,aA,bD,eL])|(refine cW rfl ?_)|(refine cO hAp rfl rfl ?_)|((first|apply cJ|apply cK|apply cI)<;>intro h<;>try simp only [h]))
      all_goals exact eY _ rfl (cW rfl (cW rfl (cW rfl rfl)))
    | some y =>
     obtain ⟨yo,r⟩:=y
     cases yo with
     | none =>
      rw [ha] at hA
      simp only [aPt] at hA
      repeat' (first|(simp only [cM,hg0,hg1,f7,iX,gW,fN,↓kE,↓wA,↓wC,wB,cQ,cP,bA,bB,bC,reduceIte,reduceCtorEq,aA,bD,eL])|(refine cW rfl ?_)|(refine dN ?_)|(with_reducible refine aE ?_ ?_)|(refine cO hP rfl rfl ?_)|(refine aBl hA (by simp [dH,dQ,l9,D.unown,yA,fN]) ⟨⟨5,4,true,dl Cs.o x.o.cs,rfl,rfl,(tP _).symm⟩,⟨7,6,true,dl D.str x.o.led,rfl,rfl,(fF _).symm⟩,trivial⟩ (by simp [D.allOwn,aZR,qC,d5]) ?_)|((first|apply cJ|apply cK|apply cI)<;>intro h<;>try simp only [h]))
      all_goals
       refine dF (i7 3 5 4 none [0,1] (v:=v1) (ow:=true) (es:=4) (xs:=dl Cs.o x.o.cs) (ob:=.box (tC (qC x.o 5 7 v1 v2) (eQ x.d x.p x.c))) (ob':=.box (tC (d5 x.o (.sl true 4 (dl Cs.o x.o.cs)) (.lnk 7 v2)) (eQ x.d x.p x.c))) rfl rfl rfl rfl (by decide) rfl) ?_
       simp only [↓wA,↓wC,wB,cQ,cP,bA,bB,bC,reduceIte,reduceCtorEq,aA,bD,eL]
       refine dF (i7 3 7 6 none [0,4] (v:=v2) (ow:=true) (es:=1) (xs:=dl D.str x.o.led) (ob:=.box (tC (d5 x.o (.sl true 4 (dl Cs.o x.o.cs)) (.lnk 7 v2)) (eQ x.d x.p x.c))) (ob':=.box x.o') rfl rfl rfl rfl (by decide) rfl) ?_
       simp only [aB,aJ,aX,exA]
       by_cases hlong:200 < (r.length:Int)
       ·have hdl:decide (200 < (r.length:Int))=true:=decide_eq_true hlong
        rw [show yE r=[108,111,110,103] from if_pos hlong]
        have hs1:gC [1] (x).o'=some (eQ x.d x.p x.c):=rfl
        have hs2:fJ [1] (x).o'=5:=rfl
        have hds:∀ a b c,j8 [1] (x).o' (eQ a b c)=(Con.mk (x).o a b c).o':=fun _ _ _=>rfl
        obtain ⟨nn,hap⟩:=uZ x.d x.p x.c l [108,111,110,103]
        have hAp:=mT x.d x.p x.c l [108,111,110,103] h.2 hml (by rw [eP]; first|decide|omega)
        rw [hap] at hAp
        simp only [mM] at hAp
        repeat' (first|(simp only [cM,hs1,hs2,hds,hdl,eI,fC,fQ,↓gK,aZK,aZO,aZL,↓wA,↓wC,wB,cQ,cP,bA,bB,bC,reduceIte,reduceCtorEq,aA,bD,eL])|(refine cW rfl ?_)|(refine cO hAp rfl rfl ?_)|((first|apply cJ|apply cK|apply cI)<;>intro h<;>try simp only [h]))
        all_goals exact eY _ rfl (cW rfl (cW rfl (cW rfl rfl)))
       ·have hdl:decide (200 < (r.length:Int))=false:=decide_eq_false hlong
        rw [show yE r=r from if_neg hlong]
        have hs1:gC [1] (x).o'=some (eQ x.d x.p x.c):=rfl
        have hs2:fJ [1] (x).o'=5:=rfl
        have hds:∀ a b c,j8 [1] (x).o' (eQ a b c)=(Con.mk (x).o a b c).o':=fun _ _ _=>rfl
        obtain ⟨nn,hap⟩:=uZ x.d x.p x.c l r
        have hAp:=mT x.d x.p x.c l r h.2 hml (by rw [eP]; first|decide|omega)
        rw [hap] at hAp
        simp only [mM] at hAp
        repeat' (first|(simp only [cM,hs1,hs2,hds,hdl,eI,fC,fQ,↓gK,aZK,aZO,aZL,↓wA,↓wC,wB,cQ,cP,bA,bB,bC,reduceIte,reduceCtorEq,aA,bD,eL])|(refine cW rfl ?_)|(refine cO hAp rfl rfl ?_)|((first|apply cJ|apply cK|apply cI)<;>intro h<;>try simp only [h]))
        all_goals exact eY _ rfl (cW rfl (cW rfl (cW rfl rfl)))
     | some q =>
      rw [ha] at hA
      simp only [aPt] at hA
      repeat' (first|(simp only [cM,aZQ,aZP,aZN,hg0,hg1,f7,iX,gW,fN,↓kE,↓wA,↓wC,wB,cQ,cP,bA,bB,bC,reduceIte,reduceCtorEq,aA,bD,eL])|(refine cW rfl ?_)|(refine dN ?_)|(with_reducible refine aE ?_ ?_)|(refine cO hP rfl rfl ?_)|(refine aBl hA (by simp [dH,dQ,l9,D.unown,yA,fN]) ⟨⟨5,4,true,dl Cs.o x.o.cs,rfl,rfl,(tP _).symm⟩,⟨7,6,true,dl D.str x.o.led,rfl,rfl,(fF _).symm⟩,trivial⟩ (by simp [D.allOwn,aZR,qC,d5]) ?_)|((first|apply cJ|apply cK|apply cI)<;>intro h<;>try simp only [h]))
      all_goals
       refine eY (.cons (.int .i64 q.day) (.cons (.sl true 4 (dl Cs.o q.cs)) (.cons (.int .i64 q.kept) (.cons (.int .i64 q.moved) (.cons (.sl true 1 (dl D.str q.led)) .nil))))) rfl (cW rfl (cW rfl ?_))
       rw [show j8 [0] (tC (qC x.o 5 7 v1 v2) (eQ x.d x.p x.c)) (D.st (.cons (.int .i64 q.day) (.cons (.sl true 4 (dl Cs.o q.cs)) (.cons (.int .i64 q.kept) (.cons (.int .i64 q.moved) (.cons (.sl true 1 (dl D.str q.led)) .nil))))))=(Con.mk q x.d x.p x.c).o' from rfl]
       refine dF (gJ.refl _) ?_
       refine dF (gJ.refl _) ?_
       simp only [aB,aJ,exA]
       by_cases hlong:200 < (r.length:Int)
       ·have hdl:decide (200 < (r.length:Int))=true:=decide_eq_true hlong
        rw [show yE r=[108,111,110,103] from if_pos hlong]
        have hs1:gC [1] (Con.mk q x.d x.p x.c).o'=some (eQ x.d x.p x.c):=rfl
        have hs2:fJ [1] (Con.mk q x.d x.p x.c).o'=5:=rfl
        have hds:∀ a b c,j8 [1] (Con.mk q x.d x.p x.c).o' (eQ a b c)=(Con.mk (Con.mk q x.d x.p x.c).o a b c).o':=fun _ _ _=>rfl
        obtain ⟨nn,hap⟩:=uZ x.d x.p x.c l [108,111,110,103]
        have hAp:=mT x.d x.p x.c l [108,111,110,103] h.2 hml (by rw [eP]; first|decide|omega)
        rw [hap] at hAp
        simp only [mM] at hAp
        repeat' (first|(simp only [cM,hs1,hs2,hds,hdl,eI,fC,fQ,↓gK,aZK,aZO,aZL,↓wA,↓wC,wB,cQ,cP,bA,bB,bC,reduceIte,reduceCtorEq,aA,bD,eL])|(refine cW rfl ?_)|(refine cO hAp rfl rfl ?_)|((first|apply cJ|apply cK|apply cI)<;>intro h<;>try simp only [h]))
        all_goals exact eY _ rfl (cW rfl (cW rfl (cW rfl rfl)))
       ·have hdl:decide (200 < (r.length:Int))=false:=decide_eq_false hlong
        rw [show yE r=r from if_neg hlong]
        have hs1:gC [1] (Con.mk q x.d x.p x.c).o'=some (eQ x.d x.p x.c):=rfl
        have hs2:fJ [1] (Con.mk q x.d x.p x.c).o'=5:=rfl
        have hds:∀ a b c,j8 [1] (Con.mk q x.d x.p x.c).o' (eQ a b c)=(Con.mk (Con.mk q x.d x.p x.c).o a b c).o':=fun _ _ _=>rfl
        obtain ⟨nn,hap⟩:=uZ x.d x.p x.c l r
        have hAp:=mT x.d x.p x.c l r h.2 hml (by rw [eP]; first|decide|omega)
        rw [hap] at hAp
        simp only [mM] at hAp
        repeat' (first|(simp only [cM,hs1,hs2,hds,hdl,eI,fC,fQ,↓gK,aZK,aZO,aZL,↓wA,↓wC,wB,cQ,cP,bA,bB,bC,reduceIte,reduceCtorEq,aA,bD,eL])|(refine cW rfl ?_)|(refine cO hAp rfl rfl ?_)|((first|apply cJ|apply cK|apply cI)<;>intro h<;>try simp only [h]))
        all_goals exact eY _ rfl (cW rfl (cW rfl (cW rfl rfl)))
theorem aJ0 (o:Off) (ho:o.ok0):Fn prog 75 [o.s] (fun rs=>rs=[o.s]):=by
 simpa [aZJ] using fE (lJ o ho)
theorem aFp (x:Con) (h:x.ok0):Fn prog 38 [x.s] (fun rs=>rs=[x.s]):=by
 have hC:=aJ0 x.o h.1
 refine c7 aXS [[1,0]] ?_
 dsimp only [aXS,cY,dD]
 repeat' (first|(simp only [aZy,aZz,cM,↓wA,↓wC,wB,cQ,cP,bA,bB,bC,reduceIte,reduceCtorEq,aA,bD,eL])|((first|apply cJ|apply cK|apply cI)<;>intro h<;>try simp only [h]))
 refine dF (iV 0 rfl) ?_
 simp only [cQ,cP,aZC,↓wA,↓wC,wB,cQ,cP,bA,bB,bC,reduceIte,reduceCtorEq,aA,bD,eL]
 repeat' (first|(simp only [gA,xW,sH,jU,vQ,j5,eI,fC,fQ,↓dK,↓gK,aZy,aZz,aZw,aZx,aZB,cM,↓wA,↓wC,wB,cQ,cP,bA,bB,bC,reduceIte,reduceCtorEq,aA,bD,eL])|(refine cW rfl ?_)|(refine dN ?_)|(with_reducible refine aE ?_ ?_)|(refine cO hC (by simp [dH,dQ,aZv]) rfl ?_)|((first|apply cJ|apply cK|apply cI)<;>intro h<;>try simp only [h]))
 all_goals rfl
theorem uV {x:Off} {K:SV->Prop}:dL 2 2 (.d (.ptr x.s)) K=K (.d (.ptr (.int .i64 x.kept))):=by simp [Off.s,d5,dL,D.pre,D.nth,D.size]
theorem vB {x:Off} {K:SV->Prop}:dL 3 3 (.d (.ptr x.s)) K=K (.d (.ptr (.int .i64 x.moved))):=by simp [Off.s,d5,dL,D.pre,D.nth,D.size]
theorem uW {x:Off} {K:SV->Prop}:dL 4 4 (.d (.ptr x.s)) K=K (.d (.ptr (.sl false 1 (dl D.str x.led)))):=by simp [Off.s,d5,dL,D.pre,D.nth,D.size]
theorem aJW (o:Off) (l:List UInt8) (ho:dV o=true):Fn prog 80 [o.s,.str l] (fun rs=>rs=[.str (mQ o l)]):=by
 have hp:=eT ho
 have hk:∀ {v:List UInt8},l=v->mQ o l=mQ o v:=fun e=>congrArg (mQ o) e
 by_cases h6:l=xF
 ·have hI:=wI l 6 (by subst h6; rfl)
  have hD:=eW o.day (by omega) (by simp only [eA]; omega)
  rw [hk h6,aTB]
  refine c7 aCy [] ?_
  dsimp only [aCy,cY,dD]
  repeat' (first|(simp only [hI,cM,iC,iB,aZw,aZx,↓wA,↓wC,wB,cQ,cP,bA,bB,bC,reduceIte,reduceCtorEq,aA,bD,eL])|(refine cO (hD) rfl rfl ?_)|(refine cR (hD) rfl rfl ?_)|((first|apply cJ|apply cK|apply cI)<;>intro h<;>try simp only [h]))
 by_cases h7:l=xA
 ·have hI:=wI l 7 (by subst h7; rfl)
  have hH:=aIF o ho
  have hL:=rS _ true (aD8 (tK o) ho)
  rw [hk h7,aTA,show aCB (tK o) o=some _ from if_pos ho]
  refine c7 aCy [] ?_
  dsimp only [aCy,cY,dD]
  repeat' (first|(simp only [hI,cM,aZw,aZx,↓dK,dB,↓wA,↓wC,wB,cQ,cP,bA,bB,bC,reduceIte,reduceCtorEq,aA,bD,eL])|(refine cO hH (by simp [dH,dQ,aZv]) rfl ?_)|(refine cO hL (by simp [dH,dQ,D.unown,dW]) rfl ?_)|((first|apply cJ|apply cK|apply cI)<;>intro h<;>try simp only [h]))
  all_goals rfl
 by_cases h8:l=iF
 ·have hI:=wI l 8 (by subst h8; rfl)
  have hH:=aIL o ho
  have hL:=rS _ true (aD8 (sY o) ho)
  rw [hk h8,aFt,show aCB (sY o) o=some _ from if_pos ho]
  refine c7 aCy [] ?_
  dsimp only [aCy,cY,dD]
  repeat' (first|(simp only [hI,cM,aZw,aZx,↓dK,dB,↓wA,↓wC,wB,cQ,cP,bA,bB,bC,reduceIte,reduceCtorEq,aA,bD,eL])|(refine cO hH (by simp [dH,dQ,aZv]) rfl ?_)|(refine cO hL (by simp [dH,dQ,D.unown,dW]) rfl ?_)|((first|apply cJ|apply cK|apply cI)<;>intro h<;>try simp only [h]))
  all_goals rfl
 by_cases h9:l=pW
 ·have hI:=wI l 9 (by subst h9; rfl)
  have hH:=aIY o (fI ho)
  rw [aHM ho] at hH
  have hv:iJ (aAF o):=aJg
  have hD:=eW (aAF o) hv.1 (m5 hv)
  rw [hk h9,aPN,aHz ho]
  cases hl:e9 o.led with
  | true =>
   rw [hl] at hH
   refine c7 aCy [] ?_
   dsimp only [aCy,cY,dD]
   repeat' (first|(simp only [hI,cM,aZw,aZx,↓dK,↓wA,↓wC,wB,cQ,cP,bA,bB,bC,reduceIte,reduceCtorEq,aA,bD,eL])|(refine cO (hD) rfl rfl ?_)|(refine cR (hD) rfl rfl ?_)|(refine cO hH (by simp [dH,dQ,aZv]) rfl ?_)|((first|apply cJ|apply cK|apply cI)<;>intro h<;>try simp only [h]))
   all_goals rfl
  | false =>
   rw [hl] at hH
   refine c7 aCy [] ?_
   dsimp only [aCy,cY,dD]
   repeat' (first|(simp only [hI,cM,aZw,aZx,↓dK,↓wA,↓wC,wB,cQ,cP,bA,bB,bC,reduceIte,reduceCtorEq,aA,bD,eL])|(refine cO (hD) rfl rfl ?_)|(refine cR (hD) rfl rfl ?_)|(refine cO hH (by simp [dH,dQ,aZv]) rfl ?_)|((first|apply cJ|apply cK|apply cI)<;>intro h<;>try simp only [h]))
   all_goals rfl
 ·have e:mQ o l=qm:=by unfold mQ; rw [if_neg h6,if_neg h7,if_neg h8,if_neg h9]
  have d6:decide (l=xF)=false:=decide_eq_false h6
  have d7:decide (l=xA)=false:=decide_eq_false h7
  have d8:decide (l=iF)=false:=decide_eq_false h8
  have d9:decide (l=pW)=false:=decide_eq_false h9
  rw [e]
  refine c7 aCy [] ?_
  dsimp only [aCy,cY,dD]
  repeat' (first|(simp only [d6,d7,d8,d9,cM,aZw,aZx,↓wA,↓wC,wB,cQ,cP,bA,bB,bC,reduceIte,reduceCtorEq,aA,bD,eL])|((first|apply cJ|apply cK|apply cI)<;>intro h<;>try simp only [h]))
  all_goals rfl
def mkC (x:Con) (p:Off×List UInt8):List D:=[(Con.mk p.1 x.d x.p x.c).s,.str p.2]
theorem oV (x:Con) (s:Stp) (hv:dV x.o=true):Fn prog 83 [x.s,s.d] (fun rs=>rs=mkC x (qH x.o s)):=by
 have hT:=aGP x.o s.k s.i s.a s.v (fI hv)
 have hsd:s.d=lG s.k s.i s.a s.v:=rfl
 rw [<- hsd] at hT
 have hsn:s.d.noOwn=true:=rfl
 have hsv:s.d.isV=true:=rfl
 have hsu:s.d.unown=s.d:=rfl
 have hrs:∀ (ob:List Ob) (K:SV->Prop),fB ob (some 4) s.d K=K (.d s.d):=fun ob K=>by rw [hsd]; simp [lG,fB,D.size,D.noOwn]
 have hf0:∀ K:SV->Prop,dL 0 0 (.d (.ptr s.d)) K=K (.d (.ptr (.int .i64 s.k))):=fun K=>by rw [hsd]; simp [lG,dL,D.pre,D.nth,D.size]
 have hf1:∀ K:SV->Prop,dL 1 1 (.d (.ptr s.d)) K=K (.d (.ptr (.int .i64 s.i))):=fun K=>by rw [hsd]; simp [lG,dL,D.pre,D.nth,D.size]
 have hf2:∀ K:SV->Prop,dL 2 2 (.d (.ptr s.d)) K=K (.d (.ptr (.int .i64 s.a))):=fun K=>by rw [hsd]; simp [lG,dL,D.pre,D.nth,D.size]
 have hf3:∀ K:SV->Prop,dL 3 3 (.d (.ptr s.d)) K=K (.d (.ptr (.int .i64 s.v))):=fun K=>by rw [hsd]; simp [lG,dL,D.pre,D.nth,D.size]
 unfold qH
 cases hq:iO x.o s.k s.i s.a s.v with
 | none =>
  have e1:sD x.o s.k s.i s.a s.v=aCr:=by unfold sD; rw [hq]; rfl
  have e2:pT x.o s.k s.i s.a s.v=false:=by unfold pT; rw [hq]; rfl
  rw [e1,e2] at hT
  refine c7 aSy [[1,0]] ?_
  dsimp only [aSy,cY,dD]
  repeat' (first|(simp only [aZy,aZz,cM,hsn,hsv,↓wA,↓wC,wB,cQ,cP,bA,bB,bC,reduceIte,reduceCtorEq,aA,bD,eL])|((first|apply cJ|apply cK|apply cI)<;>intro h<;>try simp only [h]))
  refine dF ((iV 0 rfl).trans (iV 1 rfl)) ?_
  simp only [cQ,cP,aZC,hsu,↓wA,↓wC,wB,cQ,cP,bA,bB,bC,reduceIte,reduceCtorEq,aA,bD,eL]
  repeat' (first|(simp only [gA,xW,qL,uV,vB,uW,hf0,hf1,hf2,hf3,aZy,aZz,aZA,aZw,aZx,aZB,cZ,cU,↓dY,↓dK,cM,hrs,↓wA,↓wC,wB,cQ,cP,bA,bB,bC,reduceIte,reduceCtorEq,aA,bD,eL])|(refine cW rfl ?_)|(refine cO hT (by simp [dH,dQ,aZv,hsu]) rfl ?_)|((first|apply cJ|apply cK|apply cI)<;>intro h<;>try simp only [h]))
  all_goals exact eY _ rfl rfl
 | some q =>
  have hqo:=w3 hq
  have e1:sD x.o s.k s.i s.a s.v=q:=by unfold sD; rw [hq]; rfl
  have e2:pT x.o s.k s.i s.a s.v=true:=by unfold pT; rw [hq]; rfl
  rw [e1,e2] at hT
  have hds:j8 [0] x.s q.s=(Con.mk q x.d x.p x.c).s:=rfl
  refine c7 aSy [[1,1,1,1,1,0,0],[1,1,1,0],[1,0]] ?_
  dsimp only [aSy,cY,dD]
  repeat' (first|(simp only [aZy,aZz,cM,hsn,hsv,↓wA,↓wC,wB,cQ,cP,bA,bB,bC,reduceIte,reduceCtorEq,aA,bD,eL])|((first|apply cJ|apply cK|apply cI)<;>intro h<;>try simp only [h]))
  refine dF ((iV 0 rfl).trans (iV 1 rfl)) ?_
  simp only [cQ,cP,aZC,hsu,↓wA,↓wC,wB,cQ,cP,bA,bB,bC,reduceIte,reduceCtorEq,aA,bD,eL]
  repeat' (first|(simp only [gA,xW,qL,uV,vB,uW,hf0,hf1,hf2,hf3,aZy,aZz,aZA,aZw,aZx,aZB,cZ,cU,↓dY,↓dK,cM,hrs,↓wA,↓wC,wB,cQ,cP,bA,bB,bC,reduceIte,reduceCtorEq,aA,bD,eL])|(refine cW rfl ?_)|(refine cO hT (by simp [dH,dQ,aZv,hsu]) rfl ?_)|((first|apply cJ|apply cK|apply cI)<;>intro h<;>try simp only [h]))
  refine dF (iV 3 rfl) ?_
  simp only [cQ,cP,aZv,↓wA,↓wC,wB,cQ,cP,bA,bB,bC,reduceIte,reduceCtorEq,aA,bD,eL]
  repeat' (first|(simp only [hds,sH,gA,xW,qL,uV,vB,uW,hf0,hf1,hf2,hf3,aZy,aZz,aZA,aZw,aZx,aZB,cZ,cU,↓dY,↓dK,cM,hrs,↓wA,↓wC,wB,cQ,cP,bA,bB,bC,reduceIte,reduceCtorEq,aA,bD,eL])|(refine cW rfl ?_)|(refine cO hT (by simp [dH,dQ,aZv,hsu]) rfl ?_)|((first|apply cJ|apply cK|apply cI)<;>intro h<;>try simp only [h]))
  refine eY _ rfl (cW rfl ?_)
  refine dF (iV 4 rfl) ?_
  simp only [cQ,cP,aZC,↓wA,↓wC,wB,cQ,cP,bA,bB,bC,reduceIte,reduceCtorEq,aA,bD,eL]
  by_cases k1:s.k=1
  ·have d1:decide (s.k=1)=true:=decide_eq_true k1
   have hp:=eT hqo
   have hD:=eW q.day (by omega) (by simp only [eA]; omega)
   rw [if_pos k1]
   repeat' (first|(simp only [d1,qL,uV,vB,uW,hf0,hf1,hf2,hf3,gA,aZy,aZz,aZA,aZw,aZx,aZB,cZ,dB,cU,↓dY,↓dK,cM,↓wA,↓wC,wB,cQ,cP,bA,bB,bC,reduceIte,reduceCtorEq,aA,bD,eL])|(refine cW rfl ?_)|(refine dN ?_)|(with_reducible refine aE ?_ ?_)|(refine cO (hD) rfl rfl ?_)|(refine cR (hD) rfl rfl ?_)|((first|apply cJ|apply cK|apply cI)<;>intro h<;>try simp only [h]))
   all_goals exact eY _ rfl rfl
  have d1:decide (s.k=1)=false:=decide_eq_false k1
  rw [if_neg k1]
  by_cases k4:s.k=4
  ·have d4:decide (s.k=4)=true:=decide_eq_true k4
   have hH:=aAZ x.o s.v hv
   have hL:=rS _ (dE s.v 1 9) (aCS s.v hv)
   rw [if_pos k4,aCX s.v hv]
   repeat' (first|(simp only [d1,d4,qL,uV,vB,uW,hf0,hf1,hf2,hf3,gA,aZy,aZz,aZA,aZw,aZx,aZB,cZ,dB,cU,↓dY,↓dK,cM,↓wA,↓wC,wB,cQ,cP,bA,bB,bC,reduceIte,reduceCtorEq,aA,bD,eL])|(refine cW rfl ?_)|(refine dN ?_)|(with_reducible refine aE ?_ ?_)|(refine cO hH (by simp [dH,dQ,aZv]) rfl ?_)|(refine cO hL (by simp [dH,dQ,D.unown,dW]) rfl ?_)|((first|apply cJ|apply cK|apply cI)<;>intro h<;>try simp only [h]))
   all_goals (refine eY _ rfl ?_; cases dE s.v 1 9<;>rfl)
  have d4:decide (s.k=4)=false:=decide_eq_false k4
  rw [if_neg k4]
  by_cases k6:s.k=6
  ·have d6:decide (s.k=6)=true:=decide_eq_true k6
   have hL:=rS _ true (aPP hqo)
   rw [if_pos k6]
   repeat' (first|(simp only [d1,d4,d6,qL,uV,vB,uW,hf0,hf1,hf2,hf3,gA,aZy,aZz,aZA,aZw,aZx,aZB,cZ,dB,cU,↓dY,↓dK,cM,↓wA,↓wC,wB,cQ,cP,bA,bB,bC,reduceIte,reduceCtorEq,aA,bD,eL])|(refine cW rfl ?_)|(refine dN ?_)|(with_reducible refine aE ?_ ?_)|(refine cO hL rfl rfl ?_)|((first|apply cJ|apply cK|apply cI)<;>intro h<;>try simp only [h]))
   all_goals exact eY _ rfl rfl
  have d6:decide (s.k=6)=false:=decide_eq_false k6
  rw [if_neg k6]
  have hC:=aEv q s.i (fI hqo)
  repeat' (first|(simp only [d1,d4,d6,qL,uV,vB,uW,hf0,hf1,hf2,hf3,gA,aZy,aZz,aZA,aZw,aZx,aZB,cZ,dB,cU,↓dY,↓dK,cM,↓wA,↓wC,wB,cQ,cP,bA,bB,bC,reduceIte,reduceCtorEq,aA,bD,eL])|(refine cW rfl ?_)|(refine dN ?_)|(with_reducible refine aE ?_ ?_)|(refine cO hC (by simp [dH,dQ,aZv]) rfl ?_)|((first|apply cJ|apply cK|apply cI)<;>intro h<;>try simp only [h]))
  all_goals exact eY _ rfl rfl
theorem aNo (x:Con) (w:List UInt8) (n:Int) (hv:dV x.o=true):Fn prog 81 [x.s,.str w,.int .i64 n] (fun rs=>rs=mkC x (rO x.o w n)):=by
 by_cases h0:w=oO
 ·have hI:=wI w 0 (by subst h0; rfl)
  have hM:=oV x ⟨1,0,0,n⟩ hv
  rw [show Stp.d ⟨1,0,0,n⟩=lG 1 0 0 n from rfl] at hM
  simp only [mkC,lG] at hM
  rw [(congrArg (rO x.o · n) h0).trans (aVI x.o n)]
  refine c7 aCw [] ?_
  dsimp only [aCw,cY,dD]
  repeat' (first|(simp only [gA,hI,aZy,aZz,aZA,aZw,aZx,aZB,dB,↓dY,↓dK,cM,↓wA,↓wC,wB,cQ,cP,bA,bB,bC,reduceIte,reduceCtorEq,aA,bD,eL])|(refine cW rfl ?_)|(refine dN ?_)|(with_reducible refine aE ?_ ?_)|(refine cO hM (by simp [dH,dQ,aZC]) rfl ?_)|((first|apply cJ|apply cK|apply cI)<;>intro h<;>try simp only [h]))
  all_goals exact eY _ rfl rfl
 by_cases h3:w=iA
 ·have hI:=wI w 3 (by subst h3; rfl)
  have hM:=oV x ⟨4,0,0,n⟩ hv
  rw [show Stp.d ⟨4,0,0,n⟩=lG 4 0 0 n from rfl] at hM
  simp only [mkC,lG] at hM
  rw [(congrArg (rO x.o · n) h3).trans (aMF x.o n)]
  refine c7 aCw [] ?_
  dsimp only [aCw,cY,dD]
  repeat' (first|(simp only [gA,hI,aZy,aZz,aZA,aZw,aZx,aZB,dB,↓dY,↓dK,cM,↓wA,↓wC,wB,cQ,cP,bA,bB,bC,reduceIte,reduceCtorEq,aA,bD,eL])|(refine cW rfl ?_)|(refine dN ?_)|(with_reducible refine aE ?_ ?_)|(refine cO hM (by simp [dH,dQ,aZC]) rfl ?_)|((first|apply cJ|apply cK|apply cI)<;>intro h<;>try simp only [h]))
  all_goals exact eY _ rfl rfl
 by_cases h5:w=wF
 ·have hI:=wI w 5 (by subst h5; rfl)
  have hM:=oV x ⟨6,n,0,0⟩ hv
  rw [show Stp.d ⟨6,n,0,0⟩=lG 6 n 0 0 from rfl] at hM
  simp only [mkC,lG] at hM
  rw [(congrArg (rO x.o · n) h5).trans (aYF x.o n)]
  refine c7 aCw [] ?_
  dsimp only [aCw,cY,dD]
  repeat' (first|(simp only [gA,hI,aZy,aZz,aZA,aZw,aZx,aZB,dB,↓dY,↓dK,cM,↓wA,↓wC,wB,cQ,cP,bA,bB,bC,reduceIte,reduceCtorEq,aA,bD,eL])|(refine cW rfl ?_)|(refine dN ?_)|(with_reducible refine aE ?_ ?_)|(refine cO hM (by simp [dH,dQ,aZC]) rfl ?_)|((first|apply cJ|apply cK|apply cI)<;>intro h<;>try simp only [h]))
  all_goals exact eY _ rfl rfl
 by_cases iY:w=pR
 ·have hI:=wI w 10 (by subst iY; rfl)
  have hH:=aAZ x.o n hv
  have hL:=rS _ (dE n 1 9) (aCS n hv)
  rw [(congrArg (rO x.o · n) iY).trans (aNW x.o n),aCX n hv]
  refine c7 aCw [[1,0,0]] ?_
  dsimp only [aCw,cY,dD]
  repeat' (first|(simp only [aZy,aZz,cM,↓wA,↓wC,wB,cQ,cP,bA,bB,bC,reduceIte,reduceCtorEq,aA,bD,eL])|((first|apply cJ|apply cK|apply cI)<;>intro h<;>try simp only [h]))
  refine dF (iV 0 rfl) ?_
  simp only [cQ,cP,aZC,↓wA,↓wC,wB,cQ,cP,bA,bB,bC,reduceIte,reduceCtorEq,aA,bD,eL]
  repeat' (first|(simp only [gA,hI,aZy,aZz,aZA,aZw,aZx,aZB,dB,↓dY,↓dK,cM,↓wA,↓wC,wB,cQ,cP,bA,bB,bC,reduceIte,reduceCtorEq,aA,bD,eL])|(refine cW rfl ?_)|(refine dN ?_)|(with_reducible refine aE ?_ ?_)|(refine cO hH (by simp [dH,dQ,aZv]) rfl ?_)|(refine cO hL (by simp [dH,dQ,D.unown,dW]) rfl ?_)|((first|apply cJ|apply cK|apply cI)<;>intro h<;>try simp only [h]))
  all_goals (refine eY _ rfl ?_; cases dE n 1 9<;>rfl)
 by_cases h11:w=qG
 ·have hI:=wI w 11 (by subst h11; rfl)
  have hC:=aEv x.o n (fI hv)
  rw [(congrArg (rO x.o · n) h11).trans (aQm x.o n)]
  refine c7 aCw [[1,0,0]] ?_
  dsimp only [aCw,cY,dD]
  repeat' (first|(simp only [aZy,aZz,cM,↓wA,↓wC,wB,cQ,cP,bA,bB,bC,reduceIte,reduceCtorEq,aA,bD,eL])|((first|apply cJ|apply cK|apply cI)<;>intro h<;>try simp only [h]))
  refine dF (iV 0 rfl) ?_
  simp only [cQ,cP,aZC,↓wA,↓wC,wB,cQ,cP,bA,bB,bC,reduceIte,reduceCtorEq,aA,bD,eL]
  repeat' (first|(simp only [gA,hI,aZy,aZz,aZA,aZw,aZx,aZB,dB,↓dY,↓dK,cM,↓wA,↓wC,wB,cQ,cP,bA,bB,bC,reduceIte,reduceCtorEq,aA,bD,eL])|(refine cW rfl ?_)|(refine dN ?_)|(with_reducible refine aE ?_ ?_)|(refine cO hC (by simp [dH,dQ,aZv]) rfl ?_)|((first|apply cJ|apply cK|apply cI)<;>intro h<;>try simp only [h]))
  all_goals exact eY _ rfl rfl
 ·have e:rO x.o w n=(x.o,qm):=by unfold rO; rw [if_neg h0,if_neg h3,if_neg h5,if_neg iY,if_neg h11]
  have hI:decide (w=oO)=false/\decide (w=iA)=false/\decide (w=wF)=false/\decide (w=pR)=false/\decide (w=qG)=false:=⟨decide_eq_false h0,decide_eq_false h3,decide_eq_false h5,decide_eq_false iY,decide_eq_false h11⟩
  rw [e]
  refine c7 aCw [] ?_
  dsimp only [aCw,cY,dD]
  repeat' (first|(simp only [gA,hI,aZy,aZz,aZA,aZw,aZx,aZB,dB,↓dY,↓dK,cM,↓wA,↓wC,wB,cQ,cP,bA,bB,bC,reduceIte,reduceCtorEq,aA,bD,eL])|(refine cW rfl ?_)|(refine dN ?_)|(with_reducible refine aE ?_ ?_)|((first|apply cJ|apply cK|apply cI)<;>intro h<;>try simp only [h]))
  all_goals exact eY _ rfl rfl
theorem aMo (x:Con) (w:List UInt8) (n v:Int) (hv:dV x.o=true):Fn prog 82 [x.s,.str w,.int .i64 n,.int .i64 v] (fun rs=>rs=mkC x (uC x.o w n v)):=by
 by_cases h2:w=p8
 ·have hI:=wI w 2 (by subst h2; rfl)
  have hM:=oV x ⟨3,n,0,v⟩ hv
  rw [show Stp.d ⟨3,n,0,v⟩=lG 3 n 0 v from rfl] at hM
  simp only [mkC,lG] at hM
  rw [(congrArg (uC x.o · n v) h2).trans (aU2 x.o n v)]
  refine c7 aNr [] ?_
  dsimp only [aNr,cY,dD]
  repeat' (first|(simp only [gA,hI,aZy,aZz,aZA,aZw,aZx,aZB,dB,↓dY,↓dK,cM,↓wA,↓wC,wB,cQ,cP,bA,bB,bC,reduceIte,reduceCtorEq,aA,bD,eL])|(refine cW rfl ?_)|(refine dN ?_)|(with_reducible refine aE ?_ ?_)|(refine cO hM (by simp [dH,dQ,aZC]) rfl ?_)|((first|apply cJ|apply cK|apply cI)<;>intro h<;>try simp only [h]))
  all_goals exact eY _ rfl rfl
 by_cases h4:w=mC
 ·have hI:=wI w 4 (by subst h4; rfl)
  have hM:=oV x ⟨5,n,0,v⟩ hv
  rw [show Stp.d ⟨5,n,0,v⟩=lG 5 n 0 v from rfl] at hM
  simp only [mkC,lG] at hM
  rw [(congrArg (uC x.o · n v) h4).trans (aSC x.o n v)]
  refine c7 aNr [] ?_
  dsimp only [aNr,cY,dD]
  repeat' (first|(simp only [gA,hI,aZy,aZz,aZA,aZw,aZx,aZB,dB,↓dY,↓dK,cM,↓wA,↓wC,wB,cQ,cP,bA,bB,bC,reduceIte,reduceCtorEq,aA,bD,eL])|(refine cW rfl ?_)|(refine dN ?_)|(with_reducible refine aE ?_ ?_)|(refine cO hM (by simp [dH,dQ,aZC]) rfl ?_)|((first|apply cJ|apply cK|apply cI)<;>intro h<;>try simp only [h]))
  all_goals exact eY _ rfl rfl
 ·have e:uC x.o w n v=(x.o,qm):=by unfold uC; rw [if_neg h2,if_neg h4]
  have hI:decide (w=p8)=false/\decide (w=mC)=false:=⟨decide_eq_false h2,decide_eq_false h4⟩
  rw [e]
  refine c7 aNr [] ?_
  dsimp only [aNr,cY,dD]
  repeat' (first|(simp only [gA,hI,aZy,aZz,aZA,aZw,aZx,aZB,dB,↓dY,↓dK,cM,↓wA,↓wC,wB,cQ,cP,bA,bB,bC,reduceIte,reduceCtorEq,aA,bD,eL])|(refine cW rfl ?_)|(refine dN ?_)|(with_reducible refine aE ?_ ?_)|((first|apply cJ|apply cK|apply cI)<;>intro h<;>try simp only [h]))
  all_goals exact eY _ rfl rfl
theorem aMW (x:Con) (l w:List UInt8) (ws:List (List UInt8)) (hv:dV x.o=true) (hl:l.length<=1000) (hp:parts 32 l=w :: ws):Fn prog 41 [x.s,.str l] (fun rs=>rs=mkC x (qO x.o w ws)):=by
 have hS:=o6 l 32 (by omega)
 rw [hp] at hS
 have hS:Fn prog 46 [.str l,.int .u8 32] (fun rs=>rs=[.sl true 1 (dl D.str (w :: ws))]):=hS
 have hws:∀ s∈w :: ws,s.length<=1000:=fun s hs=>by
  rw [<- hp] at hs
  have:=rI 32 l s hs
  omega
 have hwl:ws.length<=1000:=by
  have h1:=aBi 32 l
  rw [hp,aC] at h1
  omega
 have hw0:(w :: ws)[0]?=some w:=rfl
 refine c7 aXK [[1,1,1,1,0,0],[1,1,1,0,0]] ?_
 dsimp only [aXK,cY,dD]
 repeat' (first|(simp only [aZy,aZz,cM,aMt,↓wA,↓wC,wB,cQ,cP,bA,bB,bC,reduceIte,reduceCtorEq,aA,bD,eL])|(refine cW rfl ?_)|(refine cO hS rfl rfl ?_)|((first|apply cJ|apply cK|apply cI)<;>intro h<;>try simp only [h]))
 refine dF (s':=⟨[(1,.d (.str l)),(2,.d (.ptr x.s)),(4,.ptr 1 0 []),(6,.d (.sl false 1 (dl D.str (w :: ws)))),(7,.own 3)],[.dead,.box aEe,.dead,.val (.sl true 1 (dl iD []))]⟩) ((aEk 0 rfl (aZC x)).trans ((aJw 2 rfl).trans (cX _ rfl ⟨⟨rfl,rfl⟩,⟨rfl,rfl⟩,⟨rfl,rfl⟩,⟨by simp only [lA,kD,D.unown,yA,↓wA,↓wC,wB,cQ,cP,bA,bB,bC,reduceIte,reduceCtorEq,aA,bD,eL],rfl⟩,⟨rfl,rfl⟩,trivial⟩))) ?_
 repeat' (first|(simp only [cM,↓wA,↓wC,wB,cQ,cP,bA,bB,bC,reduceIte,reduceCtorEq,aA,bD,eL])|((first|apply cJ|apply cK|apply cI)<;>intro h<;>try simp only [h]))
 refine eM (fun j:Nat=>⟨[(1,.d (.str l)),(2,.d (.ptr x.s)),(4,.ptr 1 0 []),(6,.d (.sl false 1 (dl D.str (w :: ws)))),(7,.own 3),(8,.d (.int .i64 ((j:Int) + 1)))],[.dead,.box aEe,.dead,.val (.sl true 1 (dl iD (sJ ws j)))]⟩) (fun j=>j<=ws.length/\qR (ws.take j)=some (sJ ws j)) (fun j=>ws.length - j) 0 (cX _ rfl ⟨⟨rfl,rfl⟩,⟨rfl,rfl⟩,⟨rfl,rfl⟩,⟨rfl,rfl⟩,⟨rfl,rfl⟩,⟨rfl,rfl⟩,trivial⟩) ⟨Nat.zero_le _,rfl⟩ ?_
 rintro j ⟨hj,hin⟩
 by_cases hlt:j < ws.length
 ·have hd:decide ((j:Int) + 1 < ((ws.length + 1:Nat):Int))=true:=decide_eq_true (by omega)
  obtain ⟨s,hr⟩:=dS hlt
  have hr':(w :: ws)[j + 1]?=some s:=hr
  have hjn:((j:Int) + 1).toNat=j + 1:=by omega
  have hP:=aCx s (by have:=hws s (aS _ (aL hr)); omega)
  have hlen:=wS hin
  rw [aV,aY (by omega)] at hlen
  unfold rdR at hP
  cases hn:lP s with
  | none =>
   rw [hn] at hP
   have hg:qO x.o w ws=(x.o,qm):=by unfold qO; rw [aBw hn ws (aL hr)]
   rw [hg]
   repeat' (first|(simp only [hd,hr',hjn,aB,cM,cU,dC,aC,aZy,aZz,aZA,↓dY,↓wA,↓wC,wB,cQ,cP,bA,bB,bC,reduceIte,reduceCtorEq,aA,bD,eL])|(refine cO (hP) rfl rfl ?_)|(refine cR (hP) rfl rfl ?_)|(with_reducible refine cW ?_ ?_; focus omega)|(refine cW rfl ?_)|((first|apply cJ|apply cK|apply cI)<;>intro h<;>try simp only [h]))
   all_goals exact eY _ rfl rfl
  | some n =>
   rw [hn] at hP
   have hu:qR (ws.take (j + 1))=some (sJ ws j ++ [n]):=by rw [fY hr,aBu,hin,hn]; rfl
   have hu2:sJ ws (j + 1)=sJ ws j ++ [n]:=by unfold sJ at hu ⊢; rw [hu]; rfl
   repeat' (first|(simp only [hd,hr',hjn,aB,cM,cU,dC,aC,↓wA,↓wC,wB,cQ,cP,bA,bB,bC,reduceIte,reduceCtorEq,aA,bD,eL])|(refine cO (hP) rfl rfl ?_)|(refine cR (hP) rfl rfl ?_)|(refine cW (fun e=>by cases e) ?_)|(with_reducible refine cW ?_ ?_; focus omega)|(with_reducible refine cV ?_ ?_; focus (simp only [eA]; omega))|((first|apply cJ|apply cK|apply cI)<;>intro h<;>try simp only [h]))
   refine ⟨j + 1,?_,⟨by omega,by rw [hu2]; exact hu⟩,by omega⟩
   rw [hu2,<-iT (f:=iD)]
   exact (cX _ rfl ⟨⟨rfl,rfl⟩,⟨rfl,rfl⟩,⟨rfl,rfl⟩,⟨rfl,rfl⟩,⟨rfl,rfl⟩,⟨rfl,rfl⟩,trivial⟩)
 ·have hd:decide ((j:Int) + 1 < ((ws.length + 1:Nat):Int))=false:=decide_eq_false (by omega)
  have hjl:j=ws.length:=by omega
  subst hjl
  rw [aW] at hin
  have hbd:=aGJ hin
  have hlen:=wS hin
  generalize sJ ws ws.length=n at hin hbd hlen
  repeat' (first|(simp only [hd,cM,cU,aC,↓wA,↓wC,wB,cQ,cP,bA,bB,bC,reduceIte,reduceCtorEq,aA,bD,eL])|((first|apply cJ|apply cK|apply cI)<;>intro h<;>try simp only [h]))
  refine dF (s':=⟨[(1,.d (.str l)),(2,.d (.ptr x.s)),(4,.ptr 1 0 []),(6,.d (.sl false 1 (dl D.str (w :: ws)))),(7,.d (.sl false 1 (dl iD n)))],[.dead,.box aEe,.dead,.dead]⟩) ((aJw 3 rfl).trans (cX _ rfl ⟨⟨rfl,rfl⟩,⟨rfl,rfl⟩,⟨rfl,rfl⟩,⟨rfl,rfl⟩,⟨by simp only [lA,kD,D.unown,dW,↓wA,↓wC,wB,cQ,cP,bA,bB,bC,reduceIte,reduceCtorEq,aA,bD,eL],rfl⟩,trivial⟩)) ?_
  have hcase:n=[]\/(∃ a,n=[a])\/(∃ a b,n=[a,b])\/(∃ a b c,n=[a,b,c])\/4<=n.length:=by
   match n with
   | []=>exact .inl rfl
   | [a]=>exact .inr (.inl ⟨a,rfl⟩)
   | [a,b]=>exact .inr (.inr (.inl ⟨a,b,rfl⟩))
   | [a,b,c]=>exact .inr (.inr (.inr (.inl ⟨a,b,c,rfl⟩)))
   | a :: b :: c :: d :: r=>exact .inr (.inr (.inr (.inr (by simp))))
  rcases hcase with hk|⟨a,hk⟩|⟨a,b,hk⟩|⟨a,b,c,hk⟩|hk
  ·have e:ws=[]:=List.length_eq_zero_iff.1 (by rw [<- hlen,hk]; rfl)
   have ew:w=l:=aMm (by rw [hp,e])
   have hM:=aJW x.o l hv
   have hg:qO x.o w ws=(x.o,mQ x.o l):=by unfold qO; rw [hin,hk,ew]
   have hI:decide ((n.length:Int)=0)=true:=by rw [hk]; rfl
   rw [hg]
   repeat' (first|(simp only [cM,gA,aZy,aZz,aZA,aZw,aZx,aZB,dB,cU,dC,aH,aD,aB,eV,iD,hw0,hI,↓dY,↓dK,↓wA,↓wC,wB,cQ,cP,bA,bB,bC,reduceIte,reduceCtorEq,aA,bD,eL])|(with_reducible refine cW ?_ ?_; focus omega)|(refine cW rfl ?_)|(refine dN ?_)|(with_reducible refine aE ?_ ?_)|(refine cO hM (by simp [dH,dQ,aZv]) rfl ?_)|((first|apply cJ|apply cK|apply cI)<;>intro h<;>try simp only [h]))
   all_goals exact eY _ rfl rfl
  ·have hM:=aNo x w a hv
   simp only [mkC] at hM
   have hg:qO x.o w ws=rO x.o w a:=by unfold qO; rw [hin,hk]
   have hI:decide ((n.length:Int)=0)=false/\decide ((n.length:Int)=1)=true/\n[0]?=some a:=by rw [hk]; exact ⟨rfl,rfl,rfl⟩
   have hlN:n.length=1:=by rw [hk]; rfl
   rw [hg]
   repeat' (first|(simp only [cM,gA,aZy,aZz,aZA,aZw,aZx,aZB,dB,cU,dC,aH,aD,aB,eV,iD,hw0,hI,↓dY,↓dK,↓wA,↓wC,wB,cQ,cP,bA,bB,bC,reduceIte,reduceCtorEq,aA,bD,eL])|(with_reducible refine cW ?_ ?_; focus omega)|(refine cW rfl ?_)|(refine dN ?_)|(with_reducible refine aE ?_ ?_)|(refine cO hM (by simp [dH,dQ,aZC]) rfl ?_)|((first|apply cJ|apply cK|apply cI)<;>intro h<;>try simp only [h]))
   all_goals exact eY _ rfl rfl
  ·have hM:=aMo x w a b hv
   simp only [mkC] at hM
   have hg:qO x.o w ws=uC x.o w a b:=by unfold qO; rw [hin,hk]
   have hI:decide ((n.length:Int)=0)=false/\decide ((n.length:Int)=1)=false/\decide ((n.length:Int)=2)=true/\n[0]?=some a/\n[1]?=some b:=by rw [hk]; exact ⟨rfl,rfl,rfl,rfl,rfl⟩
   have hlN:n.length=2:=by rw [hk]; rfl
   rw [hg]
   repeat' (first|(simp only [cM,gA,aZy,aZz,aZA,aZw,aZx,aZB,dB,cU,dC,aH,aD,aB,eV,iD,hw0,hI,↓dY,↓dK,↓wA,↓wC,wB,cQ,cP,bA,bB,bC,reduceIte,reduceCtorEq,aA,bD,eL])|(with_reducible refine cW ?_ ?_; focus omega)|(refine cW rfl ?_)|(refine dN ?_)|(with_reducible refine aE ?_ ?_)|(refine cO hM (by simp [dH,dQ,aZC]) rfl ?_)|((first|apply cJ|apply cK|apply cI)<;>intro h<;>try simp only [h]))
   all_goals exact eY _ rfl rfl
  ·have hM:=oV x ⟨2,a,b,c⟩ hv
   rw [show Stp.d ⟨2,a,b,c⟩=lG 2 a b c from rfl] at hM
   simp only [mkC,lG] at hM
   have hlN:n.length=3:=by rw [hk]; rfl
   by_cases hw:w=lL
   ·have hg:qO x.o w ws=qH x.o ⟨2,a,b,c⟩:=by unfold qO; rw [hin,hk]; exact if_pos hw
    have hI:decide ((n.length:Int)=0)=false/\decide ((n.length:Int)=1)=false/\decide ((n.length:Int)=2)=false/\decide ((n.length:Int)=3)=true/\n[0]?=some a/\n[1]?=some b/\n[2]?=some c/\decide (w=lL)=true:=by rw [hk]; exact ⟨rfl,rfl,rfl,rfl,rfl,rfl,rfl,decide_eq_true hw⟩
    rw [hg]
    repeat' (first|(simp only [cM,gA,aZy,aZz,aZA,aZw,aZx,aZB,dB,cU,dC,aH,aD,aB,eV,iD,hw0,hI,↓dY,↓dK,↓wA,↓wC,wB,cQ,cP,bA,bB,bC,reduceIte,reduceCtorEq,aA,bD,eL])|(with_reducible refine cW ?_ ?_; focus omega)|(refine cW rfl ?_)|(refine dN ?_)|(with_reducible refine aE ?_ ?_)|(refine cO hM (by simp [dH,dQ,aZC]) rfl ?_)|((first|apply cJ|apply cK|apply cI)<;>intro h<;>try simp only [h]))
    all_goals exact eY _ rfl rfl
   ·have hg:qO x.o w ws=(x.o,qm):=by unfold qO; rw [hin,hk]; exact if_neg hw
    have hI:decide ((n.length:Int)=0)=false/\decide ((n.length:Int)=1)=false/\decide ((n.length:Int)=2)=false/\decide ((n.length:Int)=3)=true/\decide (w=lL)=false:=by rw [hk]; exact ⟨rfl,rfl,rfl,rfl,decide_eq_false hw⟩
    rw [hg]
    repeat' (first|(simp only [cM,gA,aZy,aZz,aZA,aZw,aZx,aZB,dB,cU,dC,aH,aD,aB,eV,iD,hw0,hI,↓dY,↓dK,↓wA,↓wC,wB,cQ,cP,bA,bB,bC,reduceIte,reduceCtorEq,aA,bD,eL])|(with_reducible refine cW ?_ ?_; focus omega)|(refine cW rfl ?_)|(refine dN ?_)|(with_reducible refine aE ?_ ?_)|((first|apply cJ|apply cK|apply cI)<;>intro h<;>try simp only [h]))
    all_goals exact eY _ rfl rfl
  ·have hI:decide ((n.length:Int)=0)=false/\decide ((n.length:Int)=1)=false/\decide ((n.length:Int)=2)=false/\decide ((n.length:Int)=3)=false:=⟨decide_eq_false (by omega),decide_eq_false (by omega),decide_eq_false (by omega),decide_eq_false (by omega)⟩
   have hg:qO x.o w ws=(x.o,qm):=by
    unfold qO; rw [hin]
    match n,hk with
    | a :: b :: c :: d :: r,_=>rfl
   rw [hg]
   repeat' (first|(simp only [cM,gA,aZy,aZz,aZA,aZw,aZx,aZB,dB,cU,dC,aH,aD,aB,eV,iD,hw0,hI,↓dY,↓dK,↓wA,↓wC,wB,cQ,cP,bA,bB,bC,reduceIte,reduceCtorEq,aA,bD,eL])|(with_reducible refine cW ?_ ?_; focus omega)|(refine cW rfl ?_)|(refine dN ?_)|(with_reducible refine aE ?_ ?_)|((first|apply cJ|apply cK|apply cI)<;>intro h<;>try simp only [h]))
   all_goals exact eY _ rfl rfl
theorem aKb {o q:Off} {r w:List UInt8} {ws:List (List UInt8)} (ho:dV o=true) (h:r4 o w ws=some (q,r)):dV q=true:=by
 unfold r4 at h
 split at h
 ·cases h
 ·split at h
  ·split at h
   ·split at h
    ·rename_i hq
     obtain ⟨_,_,h⟩:=aG.1 h
     injection h with h _
     subst h
     exact w3 hq
    ·cases h
   ·obtain ⟨_,_,h⟩:=aG.1 h
    injection h with h _
    subst h
    exact ho
  ·cases h
theorem aVb {o:Off} {w:List UInt8} {ws:List (List UInt8)} (ho:dV o=true):dV (qO o w ws).1=true:=by
 rw [aLx o w ws ho]
 cases h:r4 o w ws with
 | none=>exact ho
 | some y=>exact aKb ho h
theorem aSR (x:Con) (l w:List UInt8) (ws:List (List UInt8)) (ho:dV x.o=true):exA x l (r4 x.o w ws)=(⟨(qO x.o w ws).1,(aBs x.d x.p x.c l (yE (qO x.o w ws).2)).1,(aBs x.d x.p x.c l (yE (qO x.o w ws).2)).2.1,(aBs x.d x.p x.c l (yE (qO x.o w ws).2)).2.2⟩,yE (qO x.o w ws).2):=by
 rw [aLx x.o w ws ho]
 unfold exA
 cases r4 x.o w ws<;>rfl
theorem pY (x:Con) (l:List UInt8) (h:x.ok0) (hl:l.length<=1048576):Fn prog 9 [x.s,.str l] (fun rs=>rs=[(jO x l).1.s,.str (jO x l).2]):=by
 have hV:=q9 x h
 have hO:=aFp x h
 have hml:l.length<=maxLen:=by rw [eP]; omega
 have hR:=zI l [] hml (by rw [eP]; decide)
 simp only [mM] at hR
 cases hv:gO x with
 | false =>
  rw [hv] at hV
  rw [aKF hv]
  refine c7 ef9 [] ?_
  dsimp only [ef9,cY,dD]
  repeat' (first|(simp only [lE,lC,jU,j5,aZy,aZz,aZA,↓dY,eI,fC,fQ,↓gK,cM,↓wA,↓wC,wB,cQ,cP,bA,bB,bC,reduceIte,reduceCtorEq,aA,bD,eL])|(refine cW rfl ?_)|(refine cO hV rfl rfl ?_)|(refine cO hO rfl rfl ?_)|((first|apply cJ|apply cK|apply cI)<;>intro h<;>try simp only [h]))
  all_goals exact eY _ rfl rfl
 | true =>
  rw [hv] at hV
  cases hr:fS l [] with
  | false =>
   rw [hr] at hR
   rw [aGk hv hr]
   refine c7 ef9 [] ?_
   dsimp only [ef9,cY,dD]
   repeat' (first|(simp only [lE,lC,jU,j5,aZy,aZz,aZA,↓dY,eI,fC,fQ,↓gK,cM,↓wA,↓wC,wB,cQ,cP,bA,bB,bC,reduceIte,reduceCtorEq,aA,bD,eL])|(refine cW rfl ?_)|(refine cO hV rfl rfl ?_)|(refine cO hO rfl rfl ?_)|(refine cO hR rfl rfl ?_)|((first|apply cJ|apply cK|apply cI)<;>intro h<;>try simp only [h]))
   all_goals exact eY _ rfl rfl
  | true =>
   rw [hr] at hR
   by_cases hc:x.c=60
   ·have hd:decide (x.c=60)=true:=decide_eq_true hc
    rw [aDx hv hr hc]
    refine c7 ef9 [] ?_
    dsimp only [ef9,cY,dD]
    repeat' (first|(simp only [hd,lE,lC,jU,j5,aZy,aZz,aZA,↓dY,eI,fC,fQ,↓gK,cM,↓wA,↓wC,wB,cQ,cP,bA,bB,bC,reduceIte,reduceCtorEq,aA,bD,eL])|(refine cW rfl ?_)|(refine cO hV rfl rfl ?_)|(refine cO hO rfl rfl ?_)|(refine cO hR rfl rfl ?_)|((first|apply cJ|apply cK|apply cI)<;>intro h<;>try simp only [h]))
    all_goals exact eY _ rfl rfl
   ·have hd:decide (x.c=60)=false:=decide_eq_false hc
    obtain ⟨w,ws,hp⟩:=aAM 32 l
    have hoff:dV x.o=true:=by
     simp only [gO,aI] at hv
     exact hv.1
    have hln:l.length<=1000:=by have:=kJ hr; omega
    rw [aKN hv hr hc hp,aSR x l w ws hoff]
    have hM:=aMW x l w ws hoff hln hp
    simp only [mkC] at hM
    have hq:=aVb (w:=w) (ws:=ws) hoff
    generalize qO x.o w ws=y at hM hq
    obtain ⟨q,r⟩:=y
    have hO2:=aFp ⟨q,x.d,x.p,x.c⟩ ⟨fI hq,h.2⟩
    by_cases hlong:200 < (r.length:Int)
    ·have hdl:decide (200 < (r.length:Int))=true:=decide_eq_true hlong
     rw [show yE r=[108,111,110,103] from if_pos hlong]
     have hds:∀ a b c,j8 [1] (Con.mk q x.d x.p x.c).s (eQ a b c)=(Con.mk q a b c).s:=fun _ _ _=>rfl
     have hs1:gC [1] (Con.mk q x.d x.p x.c).s=some (eQ x.d x.p x.c):=rfl
     have hs2:fJ [1] (Con.mk q x.d x.p x.c).s=5:=rfl
     obtain ⟨nn,hap⟩:=uZ x.d x.p x.c l [108,111,110,103]
     have hAp:=mY x.d x.p x.c l [108,111,110,103] h.2 hml (by rw [eP]; first|decide|omega)
     rw [hap] at hAp
     simp only [mM] at hAp
     refine c7 ef9 [] ?_
     dsimp only [ef9,cY,dD]
     repeat' (first|(simp only [hd,hdl,hds,hs1,hs2,lE,lC,jU,j5,aZy,aZz,aZA,↓dY,eI,fC,fQ,↓gK,cM,↓wA,↓wC,wB,cQ,cP,bA,bB,bC,reduceIte,reduceCtorEq,aA,bD,eL])|(refine cW rfl ?_)|(refine cO hV rfl rfl ?_)|(refine cO hO rfl rfl ?_)|(refine cO hR rfl rfl ?_)|(refine cO hM rfl rfl ?_)|(refine cO hO2 rfl rfl ?_)|(refine cO hAp rfl rfl ?_)|((first|apply cJ|apply cK|apply cI)<;>intro h<;>try simp only [h]))
     all_goals exact eY _ rfl rfl
    ·have hdl:decide (200 < (r.length:Int))=false:=decide_eq_false hlong
     rw [show yE r=r from if_neg hlong]
     have hds:∀ a b c,j8 [1] (Con.mk q x.d x.p x.c).s (eQ a b c)=(Con.mk q a b c).s:=fun _ _ _=>rfl
     have hs1:gC [1] (Con.mk q x.d x.p x.c).s=some (eQ x.d x.p x.c):=rfl
     have hs2:fJ [1] (Con.mk q x.d x.p x.c).s=5:=rfl
     obtain ⟨nn,hap⟩:=uZ x.d x.p x.c l r
     have hAp:=mY x.d x.p x.c l r h.2 hml (by rw [eP]; first|decide|omega)
     rw [hap] at hAp
     simp only [mM] at hAp
     refine c7 ef9 [] ?_
     dsimp only [ef9,cY,dD]
     repeat' (first|(simp only [hd,hdl,hds,hs1,hs2,lE,lC,jU,j5,aZy,aZz,aZA,↓dY,eI,fC,fQ,↓gK,cM,↓wA,↓wC,wB,cQ,cP,bA,bB,bC,reduceIte,reduceCtorEq,aA,bD,eL])|(refine cW rfl ?_)|(refine cO hV rfl rfl ?_)|(refine cO hO rfl rfl ?_)|(refine cO hR rfl rfl ?_)|(refine cO hM rfl rfl ?_)|(refine cO hO2 rfl rfl ?_)|(refine cO hAp rfl rfl ?_)|((first|apply cJ|apply cK|apply cI)<;>intro h<;>try simp only [h]))
     all_goals exact eY _ rfl rfl
theorem aCe (L:List (List UInt8×List UInt8)):(dl kU L).unown=dl kU L:=s7 (fun _=>rfl) L
theorem aQi {d p:List UInt8} {k:Int} (c r:List UInt8) (h:lv d p k=true):(aBs d p k c r).1.length + (aBs d p k c r).2.1.length<=1048576:=by
 have hs:=t8 h
 have hc:=rG h
 unfold aBs
 split
 ·rename_i hg
  split
  ·simp only; omega
  ·have:=mS (k:=k) (by simp only [eA]; omega) hg.2
   simp only [aP,aC,aF]
   omega
 ·simp only; omega
theorem aGo {x:Con} {l:List UInt8} (h:x.ok0):(jO x l).1.ok0:=by
 unfold jO
 split
 ·rename_i hv
  split
  ·rename_i hr
   split
   ·exact h
   ·simp only [gO,aI] at hv
    refine ⟨?_,aQi l _ hv.2⟩
    unfold exA
    cases ha:r4 x.o ((parts 32 l).headD []) (parts 32 l).tail with
    | none=>exact h.1
    | some y=>exact fI (aKb hv.1 ha)
  ·exact h
 ·exact h
theorem qM (x:Con) (l:List UInt8) (h:x.ok0) (hl:l.length<=1048576):Fn prog 8 [x.s,.str l] (fun rs=>rs=[(jO x l).1.s,.str (jO x l).2]):=by
 simpa [D.unown,aZU] using fE (aIp x l h hl)
def lM (n:Int):Con:=⟨⟨if dE n 0 20000=true then n else 0,[],0,0,[]⟩,[],[],0⟩
abbrev Rec:=List UInt8×List UInt8
def v8 (x:Con) (L:List Rec):Con:=L.foldl (fun x e=>(jO x e.1).1) x
def qS:Con->List Rec->Nat
 | _,[]=>0
 | x,e :: L=>if (jO x e.1).2=e.2 then qS (jO x e.1).1 L + 1 else 0
theorem aLt (d p:List UInt8) (c:Int) (hl:d.length + p.length<=100000000):Fn prog 13 [eQ d p c] (fun rs=>rs=[.sl false 2 (dl kU (lF d p c)),.bool (lv d p c)]):=by
 simpa [D.unown,aCe] using fE (aAT d p c hl)
theorem aA1 {o:List Ob} {K:SV->Prop} {e:Rec}:fB o (some 2) (kU e) K=K (.d (kU e)):=by simp [kU,fB,D.size,D.noOwn]
theorem qZ (a b:List UInt8):plain (a ++ b)=(plain a && plain b):=List.all_append
theorem rJ (n:Int):plain (Lib.itoa n)=true:=List.all_eq_true.2 fun b hb=>by
 simp only [isP,dE,aI,decide_eq_true_eq,Bool.not_eq_true',decide_eq_false_iff_not]
 rcases aEu n b hb with rfl|h
 ·decide
 ·omega
theorem wU (sep:List UInt8) (hs:plain sep=true):∀ v:List Int,plain (Lib.join (v.map Lib.itoa) sep)=true
 | []=>rfl
 | [a]=>by rw [aT,a8,Lib.join_one]; exact rJ a
 | a :: b :: v=>by
  have ih:=wU sep hs (b :: v)
  simp only [Lib.join,aT,List.intercalate,List.intersperse_cons₂,List.flatten_cons] at ih ⊢
  rw [qZ,qZ,rJ a,hs]
  simpa using ih
theorem pU (l:List Int):plain (mV l)=true:=by
 unfold mV
 split
 ·rfl
 ·exact wU _ rfl l
theorem aKj (v:List Int):plain (mL v)=true:=by
 unfold mL
 split
 ·rfl
 ·rw [qZ,wU _ rfl]; rfl
theorem aKc (a:Int):plain (aHO a)=true:=by
 unfold aHO
 split
 ·rfl
 ·split<;>rfl
theorem aNk (x:Cs):plain (txt x)=true:=by
 unfold txt
 rw [qZ,qZ,qZ,rJ,aKj,aKc]; rfl
theorem aBZ {b o:Off} {w:List UInt8} {n:List Int} {r:List UInt8} (h:f9 b o w n=some r):plain r=true:=by
 unfold f9 at h
 split at h
 ·injection h with h; subst h; exact rJ _
 ·split at h
  ·obtain ⟨l,_,rfl⟩:=aG.1 h; exact pU l
  ·split at h
   ·injection h with h; subst h; exact pU _
   ·split at h
    ·obtain ⟨l,_,rfl⟩:=aG.1 h; exact pU l
    ·split at h
     ·obtain ⟨l,_,rfl⟩:=aG.1 h; exact pU l
     ·split at h
      ·obtain ⟨l,_,rfl⟩:=aG.1 h; exact rJ l
      ·split at h
       ·obtain ⟨l,_,rfl⟩:=aG.1 h; exact pU l
       ·unfold k9 at h
        split at h
        ·injection h with h; subst h; exact aNk _
        ·cases h
theorem aMA {o q:Off} {w r:List UInt8} {ws:List (List UInt8)} (h:r4 o w ws=some (q,r)):plain r=true:=by
 unfold r4 at h
 split at h
 ·cases h
 ·split at h
  ·split at h
   ·split at h
    ·obtain ⟨y,hy,he⟩:=aG.1 h
     injection he with _ he
     subst he
     exact aBZ hy
    ·cases h
   ·obtain ⟨y,hy,he⟩:=aG.1 h
    injection he with _ he
    subst he
    exact aBZ hy
  ·cases h
theorem aMX {r:List UInt8} (h:plain r=true):plain (yE r)=true/\(yE r).length<=200:=by
 unfold yE
 split
 ·exact ⟨rfl,by decide⟩
 ·exact ⟨h,by omega⟩
theorem aLY {x:Con} {l w:List UInt8} {ws:List (List UInt8)} (h:fS l []=true):fS l (exA x l (r4 x.o w ws)).2=true:=by
 have hp:plain (((r4 x.o w ws).map (·.2)).getD qm)=true:=by
  cases ha:r4 x.o w ws with
  | none=>rfl
  | some y=>exact aMA (q:=y.1) (r:=y.2) ha
 have hr:=aMX hp
 have h2:=hr.2
 show fS l (yE (((r4 x.o w ws).map (·.2)).getD qm))=true
 simp only [fS,aI,decide_eq_true_eq] at h ⊢
 exact ⟨⟨⟨⟨h.1.1.1.1,by omega⟩,h.1.1.2⟩,hr.1⟩,h.2⟩
end Go.Pe.Tryz
namespace Go.Pe.Tryz
theorem pG {x:UInt8} {s t:List UInt8} (h:x∈s):dA x (s ++ t)=dA x s:=by
 have e:=pQ h
 have hn:=oT x s
 generalize dA x s=a at *
 generalize after x s=b at *
 subst e
 rw [aQ,aM,lB hn]
theorem vO {x:UInt8} {s t:List UInt8} (h:x∈s):after x (s ++ t)=after x s ++ t:=by
 have e:=pQ h
 have hn:=oT x s
 generalize dA x s=a at *
 generalize after x s=b at *
 subst e
 rw [aQ,aM,oX hn]
theorem xQ:∀ (n:Nat) (k:Int) (d q:List UInt8),(eF n k d).2=d.length ->
  eF n k (d ++ q)=((eF n k d).1 ++ (eF (n - (eF n k d).1.length) (k + ((eF n k d).1.length:Nat)) q).1,d.length + (eF (n - (eF n k d).1.length) (k + ((eF n k d).1.length:Nat)) q).2)
 | 0,k,d,q,h=>by
  have hd:d=[]:=aO (by rw [<- h]; rfl)
  subst hd
  simp [eF]
 | n + 1,k,d,q,h=>by
  have e0:∀ (d:List UInt8),d=[]->eF (n + 1) k d=([],0)->eF (n + 1) k (d ++ q)=((eF (n + 1) k d).1 ++ (eF (n + 1 - (eF (n + 1) k d).1.length) (k + ((eF (n + 1) k d).1.length:Nat)) q).1,d.length + (eF (n + 1 - (eF (n + 1) k d).1.length) (k + ((eF (n + 1) k d).1.length:Nat)) q).2):=by
   intro d hd h0
   rw [h0]
   subst hd
   simp
  by_cases iY:(10:UInt8)∈d
  ·cases hr:rd k (dA 10 d) with
   | none =>
    rw [o5 hr] at h
    have hd:d=[]:=aO h.symm
    subst hd
    cases iY
   | some e =>
    have hl:=oZ iY
    have hst:=jF (n:=n) iY hr
    rw [hst] at h
    simp only at h
    have ih:=xQ n (k + 1) (after 10 d) q (by omega)
    have h10':(10:UInt8)∈d ++ q:=List.mem_append_left _ iY
    have hr':rd k (dA 10 (d ++ q))=some e:=by rw [pG iY]; exact hr
    rw [jF (n:=n) h10' hr',hst,pG iY,vO iY,ih]
    generalize hL:(eF n (k + 1) (after 10 d)).1=L
    simp only [aC,aM]
    rw [show n + 1 - (L.length + 1)=n - L.length by omega,show k + ((L.length + 1:Nat):Int)=k + 1 + (L.length:Nat) by omega]
    refine Prod.ext rfl ?_
    simp only
    omega
  ·rw [kC iY] at h
   have hd:d=[]:=aO h.symm
   exact e0 d hd (kC iY)
theorem aKu {n:Nat} {k:Int} {c r:List UInt8} (hok:fS c r=true):eF (n + 1) k (iW k c r ++ [10])=([(c,r)],(iW k c r).length + 1):=by
 have iY:(10:UInt8)∈iW k c r ++ [10]:=by simp
 have hb:dA 10 (iW k c r ++ [10])=iW k c r:=lB (aFQ hok)
 have ha:after 10 (iW k c r ++ [10])=[]:=oX (aFQ hok)
 have hr:rd k (dA 10 (iW k c r ++ [10]))=some (c,r):=by rw [hb]; exact w6.2 ⟨hok,rfl⟩
 rw [jF iY hr,hb,ha,kC (by simp)]
 rfl
theorem aVU {d p:List UInt8} {k:Int} {c r:List UInt8} (h:lv d p k=true) (h60:k≠60) (hok:fS c r=true) :
  lv d (p ++ (iW k c r ++ [10])) (k + 1)=true/\nF d (p ++ (iW k c r ++ [10]))=nF d p ++ [(c,r)]:=by
 have hE:=nZ 60 0 (d ++ p)
 simp only [lv,aI,decide_eq_true_eq] at h
 obtain ⟨⟨h1,h2⟩,h3⟩:=h
 have ha:=xQ 60 0 (d ++ p) (iW k c r ++ [10]) (by omega)
 rw [Int.zero_add,<-h3,show 60 - (eF 60 0 (d ++ p)).1.length=(59 - (eF 60 0 (d ++ p)).1.length) + 1 by omega,aKu hok,aQ] at ha
 constructor
 ·simp only [lv,aI,decide_eq_true_eq,ha]
  refine ⟨⟨?_,h2⟩,?_⟩
  ·simp only [aP,aC,aF]; omega
  ·simp only [aP,aC,aF]; omega
 ·unfold nF
  rw [ha]
def Cut (s q:List UInt8):Prop:=∃ (j:Nat) (t:List UInt8),q=s.take j ++ t/\(10:UInt8) ∉ t
end Go.Pe.Tryz
namespace Go.Pe.Tryz
open Go.Proofs.Tryz Go.Sort
theorem aBU (x:Con) (l:List UInt8) :
  (((jO x l).1=x/\((jO x l).2=[110,111]\/(jO x l).2=[98,97,100]\/(jO x l).2=[102,117,108,108])) \/
  (gO x=true/\x.c≠60/\fS l (jO x l).2=true/\dV (jO x l).1.o=true/\(jO x l).1.d=x.d/\(jO x l).1.p=x.p ++ (iW x.c l (jO x l).2 ++ [10])/\(jO x l).1.c=x.c + 1)):=by
 cases hv:gO x with
 | false=>rw [aKF hv]; exact .inl ⟨rfl,.inl rfl⟩
 | true =>
  cases hr:fS l [] with
  | false=>rw [aGk hv hr]; exact .inl ⟨rfl,.inr (.inl rfl)⟩
  | true =>
   by_cases hc:x.c=60
   ·rw [aDx hv hr hc]; exact .inl ⟨rfl,.inr (.inr rfl)⟩
   ·obtain ⟨w,ws,hp⟩:=aAM 32 l
    have hk:=hv
    simp only [gO,aI] at hk
    rw [aKN hv hr hc hp]
    have h1:=aLY (x:=x) (w:=w) (ws:=ws) hr
    have ho:dV (exA x l (r4 x.o w ws)).1.o=true:=by
     show dV (((r4 x.o w ws).map (·.1)).getD x.o)=true
     cases ha:r4 x.o w ws with
     | none=>exact hk.1
     | some y=>exact aKb (q:=y.1) (r:=y.2) hk.1 ha
    have ha:aBs x.d x.p x.c l (exA x l (r4 x.o w ws)).2=(x.d,x.p ++ (iW x.c l (exA x l (r4 x.o w ws)).2 ++ [10]),x.c + 1):=by
     rw [aBs,if_pos ⟨hk.2,h1⟩,if_neg hc]
    refine .inr ⟨rfl,hc,h1,ho,?_,?_,?_⟩
    ·exact congrArg (fun y=>y.1) ha
    ·exact congrArg (fun y=>y.2.1) ha
    ·exact congrArg (fun y=>y.2.2) ha
theorem aC0 {x:Con} {l:List UInt8} (hv:gO x=true) (hc:x.c≠60) (hr:fS l (jO x l).2=true) (ho:dV (jO x l).1.o=true) (hd:(jO x l).1.d=x.d) (hp:(jO x l).1.p=x.p ++ (iW x.c l (jO x l).2 ++ [10])) (hk:(jO x l).1.c=x.c + 1) :
  gO (jO x l).1=true/\lF (jO x l).1.d (jO x l).1.p (jO x l).1.c=lF x.d x.p x.c ++ [(l,(jO x l).2)]:=by
 simp only [gO,aI] at hv
 have h:=aVU hv.2 hc hr
 rw [hd,hp,hk]
 refine ⟨?_,?_⟩
 ·rw [gO,ho,hd,hp,hk]; exact h.1
 ·unfold lF
  rw [if_pos hv.2,if_pos h.1]
  exact h.2
theorem aFM:∀ (x:Con) (L:List Rec) (e:Rec),qS x L=L.length->(jO (v8 x L) e.1).2=e.2->qS x (L ++ [e])=(L ++ [e]).length
 | x,[],e,_,h=>by
  simp only [aR,qS]
  have h:(jO x e.1).2=e.2:=h
  rw [if_pos h]; rfl
 | x,a :: L,e,hl,h=>by
  simp only [qS,aC] at hl
  by_cases ha:(jO x a.1).2=a.2
  ·rw [if_pos ha] at hl
   have ih:=aFM (jO x a.1).1 L e (by omega) h
   simp only [aM,qS]
   rw [if_pos ha,ih,aC]
  ·rw [if_neg ha] at hl
   omega
def aGZ (day:Int) (x:Con):Prop:=gO x=true/\qS (lM day) (lF x.d x.p x.c)=(lF x.d x.p x.c).length/\v8 (lM day) (lF x.d x.p x.c)=x
theorem aGZ.next {day:Int} {x:Con} (h:aGZ day x) (l:List UInt8):aGZ day (jO x l).1:=by
 obtain ⟨h1,h2,h3⟩:=h
 rcases aBU x l with ⟨e,_⟩|⟨hv,hc,hr,ho,hd,hp,hk⟩
 ·rw [e]; exact ⟨h1,h2,h3⟩
 ·obtain ⟨g1,g2⟩:=aC0 hv hc hr ho hd hp hk
  refine ⟨g1,?_,?_⟩
  ·rw [g2]
   exact aFM _ _ _ h2 (by rw [h3])
  ·rw [g2]
   unfold v8 at h3 ⊢
   rw [List.foldl_append,h3]; rfl
theorem aZX {day:Int} (h:dE day 0 20000=true):aGZ day (lM day):=by
 have hw:=j9.1 h
 have hl:lv [] [] 0=true:=by decide
 have ho:dV (lM day).o=true:=by
  unfold lM
  rw [if_pos h]
  show (oQ ⟨day,[],0,0,[]⟩ && vS [])=true
  have e:oQ ⟨day,[],0,0,[]⟩=dE day 0 20000:=by
   show (dE day 0 20000 && decide (((0:Nat):Int)<=6) && dE 0 0 999 && dE 0 0 999 && yW [])=dE day 0 20000
   rw [show yW []=true by rfl,show dE 0 0 999=true by rfl,show decide (((0:Nat):Int)<=6)=true by rfl]
   simp
  rw [e,h]; rfl
 refine ⟨by rw [gO,ho]; exact hl,?_,?_⟩
 ·show qS (lM day) (lF [] [] 0)=(lF [] [] 0).length
  rw [show lF [] [] 0=[] by decide]; rfl
 ·show v8 (lM day) (lF [] [] 0)=lM day
  rw [show lF [] [] 0=[] by decide]; rfl
end Go.Pe.Tryz
namespace Go.Pe.Tryz
open Go.Proofs.Tryz
theorem kQ:∀ bs:List UInt8,(eK bs).noOwn=true
 | []=>rfl
 | b :: bs=>by simp [eK,D.noOwn,kQ bs]
theorem aBO:∀ (bs:List UInt8) (i:Nat),(eK bs).nth i=(bs[i]?).map fun b=>D.int .u8 (b.toNat:Int)
 | [],i=>by cases i<;>rfl
 | b :: bs,0=>rfl
 | b :: bs,i + 1=>by simp [eK,D.nth,aBO bs i]
theorem aBY:∀ bs:List UInt8,(eK bs).unown=eK bs
 | []=>rfl
 | b :: bs=>by simp [eK,D.unown,aBY bs]
theorem aN2 (x:Int):0<=bits .and .u64 x 255/\bits .and .u64 x 255<=255:=by
 unfold bits
 have h:(BitVec.ofInt (IntKind.bits .u64) x &&& BitVec.ofInt (IntKind.bits .u64) 255).toNat<=255:=by
  rw [BitVec.toNat_and]; exact Nat.le_trans Nat.and_le_right (by decide)
 simp only []
 generalize (BitVec.ofInt (IntKind.bits .u64) x &&& BitVec.ofInt (IntKind.bits .u64) 255).toNat=m at h
 have:IntKind.wrap .u64 (m:Int)=m:=by
  simp [IntKind.wrap,IntKind.bits,IntKind.signed]; omega
 rw [this]; omega
def kO (code:List UInt8) (k:Nat) (seed:Int):D:=.st (.cons (.sl false 1 (eK code)) (.cons (.int .i64 k) (.cons (.int .u64 seed) .nil)))
theorem aEo (code:List UInt8) (k:Nat) (seed:Int) (hc:code.length<=1048576) (hk:k<=1000000000000):wQ prog 61 true (kO code k seed) []
  (fun x' rs=>∃ (n:Int) (seed':Int),x'=kO code (k + 1) seed'/\rs=[.int .i64 n]/\0<=n/\n < 256):=by
 have h0:(0:Int)<=(k:Int):=by omega
 refine gF aRd [] ?_
 dsimp only [aRd,cY,dD]
 simp only [kO]
 by_cases hlt:k < code.length
 ·obtain ⟨b,hb⟩:=dS hlt
  have hbl:(b.toNat:Int) < 256:=by have:=b.toNat_lt; omega
  have hd:decide ((k:Int) < (code.length:Int))=true:=decide_eq_true (by omega)
  have hd2:decide ((k:Int) + 1<=(code.length:Int))=true:=decide_eq_true (by omega)
  repeat' (first|(simp only [kY,kQ,aBO,hd,hd2,h0,hb,aK,cM,↓wA,↓wC,wB,cQ,cP,bA,bB,bC,reduceIte,reduceCtorEq,aA,bD])|(refine cV (by simp only [eA]; omega) ?_)|(refine aAJ ?_)|((first|apply cJ|apply cK|apply cI)<;>intro h<;>try simp only [h]))
  exact ⟨_,_,rfl,rfl,by omega,hbl⟩
 ·have hd:decide ((k:Int) < (code.length:Int))=false:=decide_eq_false (by omega)
  have hd2:decide ((k:Int) + 1<=(code.length:Int))=false:=decide_eq_false (by omega)
  repeat' (first|(simp only [kY,kQ,hd,hd2,h0,cM,↓wA,↓wC,wB,cQ,cP,bA,bB,bC,reduceIte,reduceCtorEq,aA,bD])|(with_reducible refine cV ?_ ?_; focus (simp only [eA]; omega))|(with_reducible refine cW ?_ ?_; focus omega)|(with_reducible refine aAJ (k:=.u64) ?_)|((first|apply cJ|apply cK|apply cI)<;>intro h<;>try simp only [h]))
  generalize hX:(Int.fdiv _ _:Int)=X
  have h255:=aN2 X
  refine cV (by simp only [eA]; omega) ?_
  simp only [↓wA,↓wC,wB,cQ,cP,bA,bB,bC,reduceIte,reduceCtorEq,aA,bD]
  exact ⟨_,_,rfl,rfl,h255.1,by omega⟩
theorem aGq (code:List UInt8):Fn prog 6 [.sl false 1 (eK code)] (fun rs=>rs=[.bool (decide ((65536:Int) < (code.length:Int)))]):=by
 refine c7 ef6 [] ?_
 dsimp only [ef6,cY,dD]
 repeat' (first|(simp only [kY,↓wA,↓wC,wB,cQ,cP,bA,bB,bC,reduceIte,reduceCtorEq,aA,bD])|((first|apply cJ|apply cK|apply cI)<;>intro h<;>try simp only [h]))
theorem aJT (v:List Int) (hlen:v.length<=1048576):Fn prog 85 [.sl false 1 (dl iD v),.sl false 1 (dl iD v)] (fun rs=>rs=[.bool true]):=by
 refine c7 aYx [] ?_
 dsimp only [aYx,cY,dD]
 repeat' (first|(simp only [cU,↓wA,↓wC,wB,cQ,cP,bA,bB,bC,reduceIte,reduceCtorEq,aA,bD])|((first|apply cJ|apply cK|apply cI)<;>intro h<;>try simp only [h]))
 refine dU v.length (fun i:Nat=>⟨[(0,.d (.sl false 1 (dl iD v))),(1,.d (.sl false 1 (dl iD v))),(5,.d (.int .i64 i))],[]⟩) (fun _=>True) (cX _ rfl ⟨⟨rfl,rfl⟩,⟨rfl,rfl⟩,⟨rfl,rfl⟩,trivial⟩) trivial ?_ ?_
 ·intro i hlt _ hd h0
  obtain ⟨r,hr⟩:=dS hlt
  repeat' (first|(simp only [cU,dC,hd,aK,hr,aB,h0,cM,↓eV,↓wA,↓wC,wB,cQ,cP,bA,bB,bC,reduceIte,reduceCtorEq,aA,bD])|(with_reducible refine cV ?_ ?_; focus (simp only [eA]; omega))|((first|apply cJ|apply cK|apply cI)<;>intro h<;>try simp only [h]))
  exact ⟨i + 1,(cX _ rfl ⟨⟨rfl,rfl⟩,⟨rfl,rfl⟩,⟨rfl,rfl⟩,trivial⟩),by omega,by omega⟩
 ·intro _ hd
  repeat' (first|(simp only [cU,hd,↓wA,↓wC,wB,cQ,cP,bA,bB,bC,reduceIte,reduceCtorEq,aA,bD])|((first|apply cJ|apply cK|apply cI)<;>intro h<;>try simp only [h]))
theorem aI6 (L:List (List UInt8)) (hlen:L.length<=1048576):Fn prog 84 [.sl false 1 (dl D.str L),.sl false 1 (dl D.str L)] (fun rs=>rs=[.bool true]):=by
 refine c7 aXZ [] ?_
 dsimp only [aXZ,cY,dD]
 repeat' (first|(simp only [cU,↓wA,↓wC,wB,cQ,cP,bA,bB,bC,reduceIte,reduceCtorEq,aA,bD])|((first|apply cJ|apply cK|apply cI)<;>intro h<;>try simp only [h]))
 refine dU L.length (fun i:Nat=>⟨[(0,.d (.sl false 1 (dl D.str L))),(1,.d (.sl false 1 (dl D.str L))),(5,.d (.int .i64 i))],[]⟩) (fun _=>True) (cX _ rfl ⟨⟨rfl,rfl⟩,⟨rfl,rfl⟩,⟨rfl,rfl⟩,trivial⟩) trivial ?_ ?_
 ·intro i hlt _ hd h0
  obtain ⟨r,hr⟩:=dS hlt
  repeat' (first|(simp only [cU,dC,hd,aK,hr,aB,h0,cM,decide_true,↓wA,↓wC,wB,cQ,cP,bA,bB,bC,reduceIte,reduceCtorEq,aA,bD])|(with_reducible refine cV ?_ ?_; focus (simp only [eA]; omega))|((first|apply cJ|apply cK|apply cI)<;>intro h<;>try simp only [h]))
  all_goals exact ⟨i + 1,(cX _ rfl ⟨⟨rfl,rfl⟩,⟨rfl,rfl⟩,⟨rfl,rfl⟩,trivial⟩),by omega,by omega⟩
 ·intro _ hd
  repeat' (first|(simp only [cU,hd,↓wA,↓wC,wB,cQ,cP,bA,bB,bC,reduceIte,reduceCtorEq,aA,bD])|((first|apply cJ|apply cK|apply cI)<;>intro h<;>try simp only [h]))
theorem aG5 (o:Off) (ho:o.ok0):Fn prog 42 [o.s,o.s] (fun rs=>rs=[.bool true]):=by
 have h2:=aI6 o.led ho.2.1
 have hlen:=ho.1.1
 refine c7 aXN [] ?_
 dsimp only [aXN,cY,dD]
 simp only [Off.s,d5]
 repeat' (first|(simp only [c8,cZ,cM,decide_true,cU,↓wA,↓wC,wB,cQ,cP,bA,bB,bC,reduceIte,reduceCtorEq,aA,bD])|(refine cO h2 rfl rfl ?_)|((first|apply cJ|apply cK|apply cI)<;>intro h<;>try simp only [h]))
 refine dU o.cs.length (fun i:Nat=>⟨[(2,.ptr 0 0 []),(3,.ptr 1 0 []),(5,.d (.int .i64 i))],[.box o.s,.box o.s]⟩) (fun _=>True) (cX _ rfl ⟨⟨rfl,rfl⟩,⟨rfl,rfl⟩,⟨rfl,rfl⟩,trivial⟩) trivial ?_ ?_
 ·intro i hlt _ hd h0
  obtain ⟨r,hr⟩:=dS hlt
  have he:=aJT r.h (ho.1.2 r (aL hr))
  repeat' (first|(simp only [Off.s,d5,cU,dC,hd,aK,hr,aB,↓iN,pB,zV,vR,xC,h0,c8,cZ,dB,cM,decide_true,↓wA,↓wC,wB,cQ,cP,bA,bB,bC,reduceIte,reduceCtorEq,aA,bD])|(refine cR he rfl rfl ?_)|(with_reducible refine cV ?_ ?_; focus (simp only [eA]; omega))|((first|apply cJ|apply cK|apply cI)<;>intro h<;>try simp only [h]))
  all_goals exact ⟨i + 1,(cX _ rfl ⟨⟨rfl,rfl⟩,⟨rfl,rfl⟩,⟨rfl,rfl⟩,trivial⟩),by omega,by omega⟩
 ·intro _ hd
  repeat' (first|(simp only [Off.s,d5,cU,hd,c8,cZ,cM,↓wA,↓wC,wB,cQ,cP,bA,bB,bC,reduceIte,reduceCtorEq,aA,bD])|((first|apply cJ|apply cK|apply cI)<;>intro h<;>try simp only [h]))
end Go.Pe.Tryz
namespace Go.Pe.Tryz
open Go.Proofs.Tryz Go.Sort
theorem aB0 (s:List UInt8) (hl:s.length<=1048576):Fn prog 17 [.str s,.str [10]] (fun rs=>rs=if s.length<=4000 then [.sl true 1 (dl D.str (parts 10 s)),.bool true] else [.sl true 1 .nil,.bool false]):=by
 have hP:=o6 s 10 (by omega)
 have h1:(!decide ((1:Nat)=(1:Int)))=false:=by decide
 by_cases h:s.length<=4000
 ·have hd:decide ((4000:Int) < (s.length:Int))=false:=decide_eq_false (by omega)
  rw [if_pos h]
  refine c7 aRm [] ?_
  dsimp only [aRm,cY,dD]
  repeat' (first|(simp only [h1,hd,aH,List.getElem?_cons_zero,cM,↓wA,↓wC,wB,cQ,cP,bA,bB,bC,reduceIte,reduceCtorEq,aA,bD])|(refine cW (by decide) ?_)|(refine cO hP rfl rfl ?_)|((first|apply cJ|apply cK|apply cI)<;>intro h<;>try simp only [h]))
  all_goals trace_state
 ·have hd:decide ((4000:Int) < (s.length:Int))=true:=decide_eq_true (by omega)
  rw [if_neg h]
  refine c7 aRm [] ?_
  dsimp only [aRm,cY,dD]
  repeat' (first|(simp only [h1,hd,cM,↓wA,↓wC,wB,cQ,cP,bA,bB,bC,reduceIte,reduceCtorEq,aA,bD])|((first|apply cJ|apply cK|apply cI)<;>intro h<;>try simp only [h]))
  all_goals trace_state
theorem aJS {d p d' p':List UInt8} {c c':Int} {K:SV->Prop}:uM false [2,2,0] (.d (eQ d p c)) (.d (eQ d' p' c')) K=K (.d (.bool (decide (d=d') && (decide (p=p') && (decide (c=c') && true))))):=by
 simp [eQ,aVd,wH,lX]
theorem sW (x:Con) (ho:x.ok0):Fn prog 10 [x.s,x.s] (fun rs=>rs=[.bool true]):=by
 have h2:=aG5 x.o ho.1
 refine c7 aXI [] ?_
 dsimp only [aXI,cY,dD]
 repeat' (first|(simp only [aZy,aZz,aZA,aZC,↓dY,gA,xW,sH,jU,vQ,j5,↓dK,↓gK,aZw,cM,↓wA,↓wC,wB,cQ,cP,bA,bB,bC,reduceIte,reduceCtorEq,aA,bD])|(refine cO h2 rfl rfl ?_)|(refine cR h2 rfl rfl ?_)|((first|apply cJ|apply cK|apply cI)<;>intro h<;>try simp only [h]))
 simp only [aJS,decide_true,Bool.and_self,↓wA,↓wC,wB,cQ,cP,bA,bB,bC,reduceIte,reduceCtorEq,aA,bD]
end Go.Pe.Tryz
namespace Go.Pe.Tryz
open Go.Proofs.Tryz
theorem kW (code:List UInt8) (k:Nat) (seed n:Int) (hc:code.length<=1048576) (hk:k<=999999999990):wQ prog 29 true (kO code k seed) [.int .i64 n]
  (fun x' rs=>∃ (m:Int) (k':Nat) (seed':Int),x'=kO code k' seed'/\rs=[.int .i64 m]/\k<=k'/\k'<=k + 2/\0<=m/\(m < n\/m=0)):=by
 cases h1:decide (n<=1) with
 | true =>
  refine gF aCq [] ?_
  dsimp only [aCq,cY,dD]
  repeat' (first|(simp only [h1,↓wA,↓wC,wB,cQ,cP,bA,bB,bC,reduceIte,reduceCtorEq,aA,bD])|((first|apply cJ|apply cK|apply cI)<;>intro h<;>try simp only [h]))
  exact ⟨0,k,seed,rfl,rfl,by omega,by omega,by omega,.inr rfl⟩
 | false =>
  have h1':=of_decide_eq_false h1
  have hn0:n≠0:=by omega
  cases h2:decide (200 < n) with
  | false =>
   refine gF aCq [] ?_
   dsimp only [aCq,cY,dD]
   repeat' (first|(simp only [h1,h2,↓wA,↓wC,wB,cQ,cP,bA,bB,bC,reduceIte,reduceCtorEq,aA,bD])|((first|apply cJ|apply cK|apply cI)<;>intro h<;>try simp only [h]))
   refine dM (aEo code k seed hc (by omega)) rfl rfl rfl ?_
   rintro _ _ ⟨a,s1,rfl,rfl,ha0,ha1⟩
   have t0:0<=a.tmod n:=aZ _ ha0
   have t1:a.tmod n < n:=aU _ (by omega)
   repeat' (first|(simp only [h1,h2,↓wA,↓wC,wB,cQ,cP,bA,bB,bC,reduceIte,reduceCtorEq,aA,bD])|(with_reducible refine cW hn0 ?_)|(with_reducible refine cV ?_ ?_; focus (simp only [eA]; omega))|((first|apply cJ|apply cK|apply cI)<;>intro h<;>try simp only [h]))
   exact ⟨_,k + 1,s1,rfl,rfl,by omega,by omega,t0,.inl t1⟩
  | true =>
   refine gF aCq [] ?_
   dsimp only [aCq,cY,dD]
   repeat' (first|(simp only [h1,h2,↓wA,↓wC,wB,cQ,cP,bA,bB,bC,reduceIte,reduceCtorEq,aA,bD])|((first|apply cJ|apply cK|apply cI)<;>intro h<;>try simp only [h]))
   refine dM (aEo code k seed hc (by omega)) rfl rfl rfl ?_
   rintro _ _ ⟨a,s1,rfl,rfl,ha0,ha1⟩
   repeat' (first|(simp only [h1,h2,↓wA,↓wC,wB,cQ,cP,bA,bB,bC,reduceIte,reduceCtorEq,aA,bD])|(with_reducible refine cV ?_ ?_; focus (simp only [eA]; omega))|((first|apply cJ|apply cK|apply cI)<;>intro h<;>try simp only [h]))
   refine dM (aEo code (k + 1) s1 hc (by omega)) rfl rfl rfl ?_
   rintro _ _ ⟨b,s2,rfl,rfl,hb0,hb1⟩
   have t0:0<=(a * 256 + b).tmod n:=aZ _ (by omega)
   have t1:(a * 256 + b).tmod n < n:=aU _ (by omega)
   repeat' (first|(simp only [h1,h2,↓wA,↓wC,wB,cQ,cP,bA,bB,bC,reduceIte,reduceCtorEq,aA,bD])|(with_reducible refine cW hn0 ?_)|(with_reducible refine cV ?_ ?_; focus (simp only [eA]; omega))|((first|apply cJ|apply cK|apply cI)<;>intro h<;>try simp only [h]))
   exact ⟨_,k + 1 + 1,s2,rfl,rfl,by omega,by omega,t0,.inl t1⟩
theorem aAf (code:List UInt8) (k:Nat) (seed n:Int) (hc:code.length<=1048576) (hk:k<=999999999990):wQ prog 28 true (kO code k seed) [.int .i64 n]
  (fun x' rs=>∃ (b:Bool) (k':Nat) (seed':Int),x'=kO code k' seed'/\rs=[.bool b]/\k<=k'/\k'<=k + 2):=by
 refine gF aSu [] ?_
 dsimp only [aSu,cY,dD]
 try simp only [↓wA,↓wC,wB,cQ,cP,bA,bB,bC,reduceIte,reduceCtorEq,aA,bD]
 refine dM (kW code k seed n hc hk) rfl rfl rfl ?_
 rintro _ _ ⟨m,k',s',rfl,rfl,h1,h2,h3,h4⟩
 simp only [↓wA,↓wC,wB,cQ,cP,bA,bB,bC,reduceIte,reduceCtorEq,aA,bD]
 exact ⟨_,k',s',rfl,rfl,h1,h2⟩
end Go.Pe.Tryz
