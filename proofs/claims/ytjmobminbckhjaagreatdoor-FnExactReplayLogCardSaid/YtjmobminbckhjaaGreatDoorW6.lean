/- A command's reply: the program's replyOf, walked; What a command does to an office: the program's answer, walked; The program's ExecuteCommand, walked; The reference's commands: steps and words, walked; The reference's ExecuteCommand, walked; The reference's ExecuteCommand, walked: the whole; The reference's ExecuteCommand, walked: the whole; The replay of a log: both roads, walked, and the law of ReplayLog -/
import Derived.Test.YtjmobminbckhjaaGreatDoorW5
import Derived.Test.YtjmobminbckhjaaGreatDoorPeD
import Derived.Test.YtjmobminbckhjaaGreatDoorMc1
import Derived.Test.YtjmobminbckhjaaGreatDoorMc2
import Derived.Test.YtjmobminbckhjaaGreatDoorMc3
import Derived.Test.YtjmobminbckhjaaGreatDoorMc4
import Derived.Test.YtjmobminbckhjaaGreatDoorMc5
import Derived.Test.YtjmobminbckhjaaGreatDoorMc6
import Derived.Test.YtjmobminbckhjaaGreatDoorMc7
import Derived.Test.YtjmobminbckhjaaGreatDoorMc8
set_option maxRecDepth 100000
set_option maxHeartbeats 4000000
set_option linter.all false
open And renaming intro->aD
open Bool renaming and_eq_true->aL
open Int renaming toNat_zero->aF, reduceToNat->aG, toNat_natCast->aJ
open List renaming length_cons->aC, length_nil->aE, mem_of_getElem?->aH, mem_cons_of_mem->aO, cons_append->aP, length_take->aQ, take_length->aR, drop_length->aT, nil_append->aU, mem_cons->aX
open Nat renaming reduceBEq->aA, zero_le->aM, min_eq_left->aV, add_zero->aY, reduceEqDiff->aZ, reduceAdd->a6, reduceSub->a7, reduceLT->a8
open Option renaming map_some->aB, getD_some->aI, isSome_some->aK, map_eq_some_iff->aN, getD_none->aS, map_map->aW
namespace Go.Pe.Tryz
open Go.Proofs.Tryz Go.Sort
theorem aBq (b o:Off) (w:List UInt8) (n:List Int) (hb:dN b=true) (ho:dN o=true) (h:lkp pV w=some (n.length:Int)):Fn prog 73 [b.s,o.s,.str w,.sl false 1 (dl iD n)] (aKB (fE b o w n)):=by
 have hp:=eF ho
 have hl:∀ {v:List UInt8} {m:Int},w=v->lkp pV v=some m->(n.length:Int)=m:=fun e hm=>by
  rw [e,hm] at h
  injection h with h
  exact h.symm
 rcases nX w with hw|hw|hw|hw|hw|hw|hw|hw|hw|hw|hw|hw|hw
 ·have hI:=wI w 0 (by subst hw; rfl)
  have hn:=hl hw zI
  rw [(congrArg (fE b o · n) hw).trans (aM7 b o n)]
  obtain ⟨a,rfl⟩:∃ a,n=[a]:=by
   match n,hn with
   | [a],_=>exact ⟨a,rfl⟩
  have hD:=eZ o.day (by simp only [dX]; omega)
  refine cW oB [] ?_
  dsimp only [oB,m73,rF,cS,cE,cR,c8]
  try simp only [wQ]
  repeat' (first|(simp only [hI,cK,List.getElem?_cons_zero,List.getElem?_cons_succ,aC,aE,aXX,sO,sM,↓wA,↓wC,wB,aZ,a6,reduceIte,reduceCtorEq])|(refine cJ (hD) rfl rfl ?_)|(refine cL (hD) rfl rfl ?_)|(with_reducible refine cO ?_ ?_; focus omega)|((first|apply cH|apply cI|apply cG)<;>intro h<;>try simp only [h]))
  all_goals first|exact iF|exact iG|exact k9
 ·have hI:=wI w 1 (by subst hw; rfl)
  have hn:=hl hw uP
  rw [(congrArg (fE b o · n) hw).trans (aIY b o n)]
  obtain ⟨a,b',c,rfl⟩:∃ a b' c,n=[a,b',c]:=by
   match n,hn with
   | [a,b',c],_=>exact ⟨a,b',c,rfl⟩
  have hH:=kZ o a (eU ho)
  rw [yO ho] at hH
  rw [show n0 [a,b',c]=a from rfl]
  refine cW oB [] ?_
  dsimp only [oB,m73,rF,cS,cE,cR,c8]
  try simp only [wQ]
  repeat' (first|(simp only [hI,cK,dC,List.getElem?_cons_zero,List.getElem?_cons_succ,aC,aE,aB,aG,iD,aXW,aXX,↓dL,↓wA,↓wC,wB,aZ,a6,reduceIte,reduceCtorEq,aA])|(refine cJ hH (by simp [dA,dK,aX1]) rfl ?_)|(refine cL hH (by simp [dA,dK]) rfl ?_)|(with_reducible refine cO ?_ ?_; focus omega)|((first|apply cH|apply cI|apply cG)<;>intro h<;>try simp only [h]))
  all_goals first|exact iF|exact iG|exact k9
 ·have hI:=wI w 2 (by subst hw; rfl)
  have hn:=hl hw y8
  rw [(congrArg (fE b o · n) hw).trans (aMO b o n)]
  obtain ⟨a,b',rfl⟩:∃ a b',n=[a,b']:=by
   match n,hn with
   | [a,b'],_=>exact ⟨a,b',rfl⟩
  have hH:=kZ o a (eU ho)
  rw [yO ho] at hH
  rw [show n0 [a,b']=a from rfl]
  refine cW oB [] ?_
  dsimp only [oB,m73,rF,cS,cE,cR,c8]
  try simp only [wQ]
  repeat' (first|(simp only [hI,cK,dC,List.getElem?_cons_zero,List.getElem?_cons_succ,aC,aE,aB,aG,iD,aXW,aXX,↓dL,↓wA,↓wC,wB,aZ,a6,reduceIte,reduceCtorEq,aA])|(refine cJ hH (by simp [dA,dK,aX1]) rfl ?_)|(refine cL hH (by simp [dA,dK]) rfl ?_)|(with_reducible refine cO ?_ ?_; focus omega)|((first|apply cH|apply cI|apply cG)<;>intro h<;>try simp only [h]))
  all_goals first|exact iF|exact iG|exact k9
 ·have hI:=wI w 3 (by subst hw; rfl)
  have hn:=hl hw oF
  rw [(congrArg (fE b o · n) hw).trans (aDA b o n)]
  obtain ⟨a,rfl⟩:∃ a,n=[a]:=by
   match n,hn with
   | [a],_=>exact ⟨a,rfl⟩
  have hH:=yM b a hb
  have hT:=nI _ (aA9 a hb)
  rw [show n0 [a]=a from rfl,aBa a hb]
  refine cW oB [] ?_
  dsimp only [oB,m73,rF,cS,cE,cR,c8]
  try simp only [wQ]
  repeat' (first|(simp only [hI,cK,dC,List.getElem?_cons_zero,List.getElem?_cons_succ,aC,aE,aB,aG,iD,aXW,aXX,↓dL,↓wA,↓wC,wB,aZ,a6,reduceIte,reduceCtorEq,aA])|(refine cL hH (by simp [dA,dK]) rfl ?_)|(refine cJ hT (by simp [dA,dK,dS]) rfl ?_)|(refine cL hT (by simp [dA,dK,D.unown,dS]) rfl ?_)|(with_reducible refine cO ?_ ?_; focus omega)|((first|apply cH|apply cI|apply cG)<;>intro h<;>try simp only [h]))
  all_goals first|exact iF|exact iG|exact k9
 ·have hI:=wI w 4 (by subst hw; rfl)
  have hn:=hl hw u6
  rw [(congrArg (fE b o · n) hw).trans (aIT b o n)]
  obtain ⟨a,b',rfl⟩:∃ a b',n=[a,b']:=by
   match n,hn with
   | [a,b'],_=>exact ⟨a,b',rfl⟩
  have hH:=kZ o a (eU ho)
  rw [yO ho] at hH
  rw [show n0 [a,b']=a from rfl]
  refine cW oB [] ?_
  dsimp only [oB,m73,rF,cS,cE,cR,c8]
  try simp only [wQ]
  repeat' (first|(simp only [hI,cK,dC,List.getElem?_cons_zero,List.getElem?_cons_succ,aC,aE,aB,aG,iD,aXW,aXX,↓dL,↓wA,↓wC,wB,aZ,a6,reduceIte,reduceCtorEq,aA])|(refine cJ hH (by simp [dA,dK,aX1]) rfl ?_)|(refine cL hH (by simp [dA,dK]) rfl ?_)|(with_reducible refine cO ?_ ?_; focus omega)|((first|apply cH|apply cI|apply cG)<;>intro h<;>try simp only [h]))
  all_goals first|exact iF|exact iG|exact k9
 ·have hI:=wI w 5 (by subst hw; rfl)
  have hn:=hl hw aDn
  rw [(congrArg (fE b o · n) hw).trans (aRw b o n)]
  obtain ⟨a,rfl⟩:∃ a,n=[a]:=by
   match n,hn with
   | [a],_=>exact ⟨a,rfl⟩
  have hT:=nI _ (aNs ho)
  refine cW oB [] ?_
  dsimp only [oB,m73,rF,cS,cE,cR,c8]
  try simp only [wQ]
  repeat' (first|(simp only [hI,cK,cP,List.getElem?_cons_zero,List.getElem?_cons_succ,aC,aE,aXX,aPT,aP0,xG,aOd,aPU,yU,cZ,↓wA,↓wC,wB,aZ,a6,reduceIte,reduceCtorEq,aA])|(refine cJ hT rfl rfl ?_)|(with_reducible refine cO ?_ ?_; focus omega)|((first|apply cH|apply cI|apply cG)<;>intro h<;>try simp only [h]))
  all_goals first|exact iF|exact iG|exact k9
 ·have hI:=wI w 6 (by subst hw; rfl)
  have hn:=hl hw aCO
  rw [(congrArg (fE b o · n) hw).trans (aRO b o n)]
  have hD:=eZ o.day (by simp only [dX]; omega)
  refine cW oB [] ?_
  dsimp only [oB,m73,rF,cS,cE,cR,c8]
  try simp only [wQ]
  repeat' (first|(simp only [hI,cK,List.getElem?_cons_zero,List.getElem?_cons_succ,aC,aE,aXX,sO,sM,↓wA,↓wC,wB,aZ,a6,reduceIte,reduceCtorEq,aA])|(refine cJ (hD) rfl rfl ?_)|(refine cL (hD) rfl rfl ?_)|(with_reducible refine cO ?_ ?_; focus omega)|((first|apply cH|apply cI|apply cG)<;>intro h<;>try simp only [h]))
  all_goals first|exact iF|exact iG|exact k9
 ·have hI:=wI w 7 (by subst hw; rfl)
  have hn:=hl hw aBJ
  rw [(congrArg (fE b o · n) hw).trans (aQN b o n)]
  have hH:=aGw o ho
  have hT:=nI _ (aCi (qW o) ho)
  rw [show aAV (qW o) o=some _ from if_pos ho]
  refine cW oB [] ?_
  dsimp only [oB,m73,rF,cS,cE,cR,c8]
  try simp only [wQ]
  repeat' (first|(simp only [hI,cK,List.getElem?_cons_zero,List.getElem?_cons_succ,aC,aE,aB,dE,aXW,aXX,↓dL,↓wA,↓wC,wB,aZ,a6,reduceIte,reduceCtorEq,aA])|(refine cJ hH (by simp [dA,dK]) rfl ?_)|(refine cJ hT (by simp [dA,dK]) rfl ?_)|(with_reducible refine cO ?_ ?_; focus omega)|((first|apply cH|apply cI|apply cG)<;>intro h<;>try simp only [h]))
  all_goals first|exact iF|exact iG|exact k9
 ·have hI:=wI w 8 (by subst hw; rfl)
  have hn:=hl hw mL
  rw [(congrArg (fE b o · n) hw).trans (aDl b o n)]
  have hH:=aFu o ho
  have hT:=nI _ (aCi (pS o) ho)
  rw [show aAV (pS o) o=some _ from if_pos ho]
  refine cW oB [] ?_
  dsimp only [oB,m73,rF,cS,cE,cR,c8]
  try simp only [wQ]
  repeat' (first|(simp only [hI,cK,List.getElem?_cons_zero,List.getElem?_cons_succ,aC,aE,aB,dE,aXW,aXX,↓dL,↓wA,↓wC,wB,aZ,a6,reduceIte,reduceCtorEq,aA])|(refine cJ hH (by simp [dA,dK]) rfl ?_)|(refine cJ hT (by simp [dA,dK]) rfl ?_)|(with_reducible refine cO ?_ ?_; focus omega)|((first|apply cH|apply cI|apply cG)<;>intro h<;>try simp only [h]))
  all_goals first|exact iF|exact iG|exact k9
 ·have hI:=wI w 9 (by subst hw; rfl)
  have hn:=hl hw wG
  rw [(congrArg (fE b o · n) hw).trans (aMR b o n)]
  have hH:=aFH aG7 o (eU ho)
  rw [aGq ho] at hH
  have hD:=eZ (yL o) (kY aFK)
  rw [aGM ho]
  refine cW oB [] ?_
  dsimp only [oB,m73,rF,cS,cE,cR,c8]
  try simp only [wQ]
  repeat' (first|(simp only [hI,cK,List.getElem?_cons_zero,List.getElem?_cons_succ,aC,aE,aXW,aXX,↓dL,↓wA,↓wC,wB,aZ,a6,reduceIte,reduceCtorEq,aA])|(refine cJ hH (by simp [dA,dK]) rfl ?_)|(refine cJ (hD) rfl rfl ?_)|(refine cL (hD) rfl rfl ?_)|(with_reducible refine cO ?_ ?_; focus omega)|((first|apply cH|apply cI|apply cG)<;>intro h<;>try simp only [h]))
  all_goals first|exact iF|exact iG|exact k9
 ·have hI:=wI w 10 (by subst hw; rfl)
  have hn:=hl hw wJ
  rw [(congrArg (fE b o · n) hw).trans (aLI b o n)]
  obtain ⟨a,rfl⟩:∃ a,n=[a]:=by
   match n,hn with
   | [a],_=>exact ⟨a,rfl⟩
  have hH:=yM o a ho
  have hT:=nI _ (aA9 a ho)
  rw [show n0 [a]=a from rfl,aBa a ho]
  refine cW oB [] ?_
  dsimp only [oB,m73,rF,cS,cE,cR,c8]
  try simp only [wQ]
  repeat' (first|(simp only [hI,cK,dC,List.getElem?_cons_zero,List.getElem?_cons_succ,aC,aE,aB,aG,iD,aXW,aXX,↓dL,↓wA,↓wC,wB,aZ,a6,reduceIte,reduceCtorEq,aA])|(refine cL hH (by simp [dA,dK]) rfl ?_)|(refine cJ hT (by simp [dA,dK,dS]) rfl ?_)|(refine cL hT (by simp [dA,dK,D.unown,dS]) rfl ?_)|(with_reducible refine cO ?_ ?_; focus omega)|((first|apply cH|apply cI|apply cG)<;>intro h<;>try simp only [h]))
  all_goals first|exact iF|exact iG|exact k9
 ·have hI:=wI w 11 (by subst hw; rfl)
  have hn:=hl hw wT
  rw [(congrArg (fE b o · n) hw).trans (aL6 b o n)]
  obtain ⟨a,rfl⟩:∃ a,n=[a]:=by
   match n,hn with
   | [a],_=>exact ⟨a,rfl⟩
  have hH:=kZ o a (eU ho)
  rw [yO ho] at hH
  rw [show n0 [a]=a from rfl]
  refine cW oB [] ?_
  dsimp only [oB,m73,rF,cS,cE,cR,c8]
  try simp only [wQ]
  repeat' (first|(simp only [hI,cK,dC,List.getElem?_cons_zero,List.getElem?_cons_succ,aC,aE,aB,aG,iD,aXW,aXX,↓dL,↓wA,↓wC,wB,aZ,a6,reduceIte,reduceCtorEq,aA])|(refine cJ hH (by simp [dA,dK,aX1]) rfl ?_)|(refine cL hH (by simp [dA,dK]) rfl ?_)|(with_reducible refine cO ?_ ?_; focus omega)|((first|apply cH|apply cI|apply cG)<;>intro h<;>try simp only [h]))
  all_goals first|exact iF|exact iG|exact k9
 ·rw [wV hw] at h; cases h
def n6 (o:Off) (q1 q2:Nat) (v1 v2:Value):D:=dQ o (.lnk q1 v1) (.lnk q2 v2)
def oLs (o:Off) (v1 v2:Value):List (Value×Nat×D):=[(v1,4,dl Cs.s o.cs),(v2,1,dl D.str o.led)]
theorem fA (o:Off) (q1 q2:Nat) (v1 v2:Value):(n6 o q1 q2 v1 v2).noOwn=true:=rfl
theorem gI (o:Off) (q1 q2:Nat) (v1 v2:Value):(n6 o q1 q2 v1 v2).isV=true:=rfl
theorem fT (o:Off) (q1 q2:Nat) (v1 v2:Value):(n6 o q1 q2 v1 v2).size=5:=rfl
theorem iL (o:Off) (q1 q2:Nat) (v1 v2:Value):(n6 o q1 q2 v1 v2).unown=n6 o q1 q2 v1 v2:=rfl
theorem iS {ob:List Ob} {K:SV->Prop} {o:Off} {q1 q2:Nat} {v1 v2:Value}:eI ob (some 5) (n6 o q1 q2 v1 v2) K=K (.d (n6 o q1 q2 v1 v2)):=by simp [n6,dQ,eI,D.size,D.noOwn]
def pE (ws:List (List UInt8)) (i:Nat):List Int:=(n9 (ws.take i)).getD []
theorem aAc:∀ (l:List (List UInt8)) (s:List UInt8),n9 (l ++ [s])=(n9 l).bind fun a=>(jN s).map fun n=>a ++ [n]
 | [],s=>by simp only [aU,n9]; cases jN s<;>rfl
 | x :: l,s=>by
  simp only [aP,n9,aAc l s]
  cases jN x with
  | none=>rfl
  | some a=>cases n9 l with
   | none=>rfl
   | some b=>cases jN s<;>rfl
theorem y4 {s:List UInt8} (h:jN s=none):∀ l:List (List UInt8),s∈l->n9 l=none
 | x :: l,hm=>by
  simp only [n9]
  cases hx:jN x with
  | none=>rfl
  | some a =>
   rcases aX.1 hm with rfl|hm
   ·rw [h] at hx; cases hx
   ·rw [y4 h l hm]; rfl
theorem tN:∀ {l:List (List UInt8)} {n:List Int},n9 l=some n->n.length=l.length
 | [],n,h=>by injection h with h; subst h; rfl
 | x :: l,n,h=>by
  simp only [n9] at h
  split at h
  ·cases hn:n9 l with
   | none=>rw [hn] at h; cases h
   | some m=>rw [hn] at h; injection h with h; subst h; simp [tN hn]
  ·cases h
theorem aEN:∀ {l:List (List UInt8)} {n:List Int},n9 l=some n->∀ x∈n,-999999<=x/\x<=999999
 | [],n,h=>by injection h with h; subst h; intro x hx; cases hx
 | y :: l,n,h=>by
  simp only [n9] at h
  split at h
  ·rename_i a ha
   cases hn:n9 l with
   | none=>rw [hn] at h; cases h
   | some m =>
    rw [hn] at h; injection h with h; subst h
    intro x hx
    rcases aX.1 hx with rfl|hx
    ·exact (sG ha).2
    ·exact aEN hn x hx
  ·cases h
def q9 (o:Off) (w:List UInt8) (ws:List (List UInt8)):Option (Option Off×List UInt8) :=
 match n9 ws with
 | none=>none
 | some n=>if lkp pV w=some (n.length:Int) then
   (match lC w n with
   | some s=>match gO o s.k s.i s.a s.v with
    | some q=>(fE o q w n).map fun r=>(some q,r)
    | none=>none
   | none=>(fE o o w n).map fun r=>(none,r))
  else none
theorem aSy (o:Off) (w:List UInt8) (ws:List (List UInt8)):aAK o w ws=(q9 o w ws).map fun x=>(x.1.getD o,x.2):=by
 unfold aAK q9
 cases n9 ws with
 | none=>rfl
 | some n =>
  simp only
  split
  ·cases lC w n with
   | none=>simp only [aW]; rfl
   | some s =>
    simp only
    cases gO o s.k s.i s.a s.v with
    | none=>rfl
    | some q=>simp only [aW]; rfl
  ·rfl
def aMy (l:D) (x:Option (Option Off×List UInt8)):List D:=match x with
 | none=>[l,.str [],.bool false]
 | some (some q,r)=>[q.o,.str r,.bool true]
 | some (none,r)=>[l,.str r,.bool true]
theorem aAi {P:PG} {s:St} {KK:SV->St->Prop} {f:FuncId} {args:List Opd} {ss:List SV} {ds rs:List D} {L:List (Value×Nat×D)} (hf:FnL P f L ds (fun qs=>qs=rs)) (ha:dA s.o ss=some ds) (hL:pQ s.o L) (ho:rs.all D.allOwn=true) (hk:KK (l9 (dU rs s.o).1) ⟨s.e,(dU rs s.o).2⟩):lW P s f args ss KK :=
 aST hf ha hL fun _ e=>by subst e; exact ⟨ho,hk⟩
theorem oU {ob:List Ob} {o:Off} {q1 q2 r1 r2:Nat} {v1 v2:Value} {ss:List SV} {K:List D->Prop} (h1:ob[q1]?=some (.tag r1 v1)) (h2:ob[r1]?=some (.val (.sl false 4 (dl Cs.s o.cs)))) (h3:ob[q2]?=some (.tag r2 v2)) (h4:ob[r2]?=some (.val (.sl false 1 (dl D.str o.led))))
  (h:s3 ob ss fun ys=>K (o.s :: ys)):s3 ob (.d (n6 o q1 q2 v1 v2) :: ss) K:=by
 refine ⟨r1,false,4,dl Cs.s o.cs,h1,h2,r2,false,1,dl D.str o.led,h3,h4,?_⟩
 have e1:(D.sl false 4 (dl Cs.s o.cs)).unown=.sl false 4 (dl Cs.s o.cs):=by simp [D.unown,fK]
 have e2:(D.sl false 1 (dl D.str o.led)).unown=.sl false 1 (dl D.str o.led):=by simp [D.unown,gD]
 rw [e1,e2]
 exact h
theorem aDK {ob:List Ob} {r:Nat} {n:List Int} {ss:List SV} {K:List D->Prop} (h1:ob[r]?=some (.val (.sl true 1 (dl iD n)))) (h:s3 ob ss fun ys=>K (.sl false 1 (dl iD n) :: ys)):s3 ob (.own r :: ss) K:=by
 refine ⟨_,h1,?_⟩
 rw [show (D.sl true 1 (dl iD n)).unown=.sl false 1 (dl iD n) by simp [D.unown,dS]]
 exact h
theorem aDQ {ob:List Ob} {x:List UInt8} {ss:List SV} {K:List D->Prop} (h:s3 ob ss fun ys=>K (.str x :: ys)):s3 ob (.d (.str x) :: ss) K:=h
theorem aGI {r:List UInt8} {rs:List D} (h:aKB (some r) rs):rs=[.str r,.bool true]:=by
 obtain ⟨t,rfl,ht⟩:=h
 rw [ht r rfl]; rfl
theorem aJx {rs:List D} (h:aKB none rs):∃ t,rs=[.str t,.bool false]:=by
 obtain ⟨t,rfl,_⟩:=h
 exact ⟨t,rfl⟩
theorem aIv {o q:Off} {w:List UInt8} {n:List Int} {s:Stp} (h:lC w n=some s) (hq:gO o s.k s.i s.a s.v=some q):∃ r,fE o q w n=some r:=by
 rcases nX w with rfl|rfl|rfl|rfl|rfl|rfl|rfl|rfl|rfl|rfl|rfl|rfl|hn
 ·exact ⟨_,aM7 o q n⟩
 ·rw [aIY]; rw [aJr] at h; injection h with h; subst h; exact mQ (.inl rfl) hq
 ·rw [aMO]; rw [aL4] at h; injection h with h; subst h; exact mQ (.inr (.inl rfl)) hq
 ·rw [aDA]; rw [aDU] at h; injection h with h; subst h
  obtain ⟨l,hl⟩:=aDs hq
  rw [hl]; exact ⟨_,rfl⟩
 ·rw [aIT]; rw [aJw] at h; injection h with h; subst h; exact mQ (.inr (.inr rfl)) hq
 ·exact ⟨_,aRw o q n⟩
 ·rw [aLh] at h; cases h
 ·rw [aLn] at h; cases h
 ·rw [zP] at h; cases h
 ·rw [aIk] at h; cases h
 ·rw [aHN] at h; cases h
 ·rw [aHZ] at h; cases h
 ·obtain ⟨h0,h1,h2,h3,h4,h5,_⟩:=hn
  unfold lC at h
  rw [if_neg h0,if_neg h1,if_neg h2,if_neg h3,if_neg h4,if_neg h5] at h
  cases h
theorem aK9 (o:Off) (v1 v2:Value) (w:List UInt8) (ws:List (List UInt8)) (ho:dN o=true) (hl:ws.length<=1000) (hs:∀ s∈ws,s.length<=1000) :
  FnL prog 37 (oLs o v1 v2) [n6 o 2 3 v1 v2,.sl false 1 (dl D.str (w :: ws))] (fun rs=>rs=aMy (n6 o 2 3 v1 v2) (q9 o w ws)):=by
 have hoz:aC6.o.size=5:=rfl
 have hqo:∀ q:Off,q.o.noOwn=false:=aYd
 have hfold:(D.st (.cons (.int .i64 o.day) (.cons (.sl false 4 (dl Cs.s o.cs)) (.cons (.int .i64 o.kept) (.cons (.int .i64 o.moved) (.cons (.sl false 1 (dl D.str o.led)) .nil))))))=o.s:=rfl
 have hsub:((w :: ws).take (ws.length + 1)).drop (Int.toNat 1)=ws:=by simp
 refine aSK aUR [[1,1,1,1,1,1,0,1,1,0,0]] ?_
 dsimp only [aUR,m37,rF,cS,cE,cR,c8]
 try simp only [wQ]
 simp only [oLs,zM,aEI,aEL,List.map_cons,List.map_nil,aP,aU]
 repeat' (first|(simp only [cK,fA,gI,fT,iL,↓iS,cP,oO,hsub,cZ,aC,↓wA,↓wC,wB,cU,cT,aZ,a6,a7,reduceIte,reduceCtorEq,aA,a8,dF])|(with_reducible refine cO ?_ ?_; focus omega)|((first|apply cH|apply cI|apply cG)<;>intro h<;>try simp only [h]))
 refine tL [(7,1)] ws.length (fun i:Nat=>⟨[(1,.d (.sl false 1 (dl D.str (w :: ws)))),(2,.ptr 4 0 []),(4,.ptr 5 0 []),(7,.own 6),(23,.d (.sl false 1 (dl D.str ws))),(24,.d (.int .i64 ws.length)),(25,.d (.int .i64 i))],[.val (.sl false 4 (dl Cs.s o.cs)),.val (.sl false 1 (dl D.str o.led)),.tag 0 v1,.tag 1 v2,.box (n6 o 2 3 v1 v2),.box aC6.o,.val (.sl true 1 (dl iD (pE ws i)))]⟩) (fun i=>n9 (ws.take i)=some (pE ws i)) ⟨rfl,trivial⟩ (cV _ rfl ⟨⟨rfl,rfl⟩,⟨rfl,rfl⟩,⟨rfl,rfl⟩,⟨rfl,rfl⟩,⟨rfl,rfl⟩,⟨rfl,rfl⟩,⟨rfl,rfl⟩,trivial⟩) rfl ?_ ?_
 ·intro i hlt hin hd h0
  obtain ⟨s,hr⟩:=dW hlt
  have hP:=aGH s (by have:=hs s (aH hr); omega)
  have hlen:=tN hin
  rw [aQ,aV (by omega)] at hlen
  unfold rdR at hP
  cases hn:jN s with
  | none =>
   rw [hn] at hP
   have hg:q9 o w ws=none:=by unfold q9; rw [y4 hn ws (aH hr)]
   rw [hg]
   repeat' (first|(simp only [hd,h0,hr,aJ,aB,cK,dC,fA,gI,fT,↓iS,↓wA,↓wC,wB,aZ,a6,reduceIte,aA,dF])|(refine cJ (hP) rfl rfl ?_)|(refine cL (hP) rfl rfl ?_)|((first|apply cH|apply cI|apply cG)<;>intro h<;>try simp only [h]))
   exact cO rfl (cO rfl (eX _ rfl rfl))
  | some n =>
   rw [hn] at hP
   have hu:n9 (ws.take (i + 1))=some (pE ws i ++ [n]):=by rw [fG hr,aAc,hin,hn]; rfl
   have hu2:pE ws (i + 1)=pE ws i ++ [n]:=by unfold pE at hu ⊢; rw [hu]; rfl
   repeat' (first|(simp only [hd,h0,hr,aJ,aB,cK,cP,dC,fA,gI,fT,iL,↓iS,↓wA,↓wC,wB,cU,cT,aZ,a6,a7,reduceIte,reduceCtorEq,aA,a8,dF])|(refine cJ (hP) rfl rfl ?_)|(refine cL (hP) rfl rfl ?_)|(refine cO (fun e=>by cases e) ?_)|(with_reducible refine cO ?_ ?_; focus omega)|(with_reducible refine cM ?_ ?_; focus (simp only [dX]; omega))|((first|apply cH|apply cI|apply cG)<;>intro h<;>try simp only [h]))
   refine ⟨i + 1,?_,⟨by omega,by rw [hu2]; exact hu⟩,by omega⟩
   rw [hu2,<-hZ (f:=iD)]
   exact (cV _ rfl ⟨⟨rfl,rfl⟩,⟨rfl,rfl⟩,⟨rfl,rfl⟩,⟨rfl,rfl⟩,⟨rfl,rfl⟩,⟨rfl,rfl⟩,⟨rfl,rfl⟩,trivial⟩)
 ·intro hin hd
  rw [aR] at hin
  have hbd:=aEN hin
  have hlen:=tN hin
  generalize pE ws ws.length=n at hin hbd hlen
  have hw0:(w :: ws)[0]?=some w:=rfl
  cases hk:lkp pV w with
  | none =>
   have hg:q9 o w ws=none:=by unfold q9; rw [hin]; simp only [hk]; exact if_neg (fun e=>by cases e)
   rw [hg]
   repeat' (first|(simp only [hd,cK,dC,hw0,hk,aF,aB,Option.isSome_none,fA,gI,fT,↓iS,↓wA,↓wC,wB,aZ,a6,reduceIte,aA,dF])|(with_reducible refine cO ?_ ?_; focus omega)|(refine cO rfl ?_)|((first|apply cH|apply cI|apply cG)<;>intro h<;>try simp only [h]))
   exact eX _ rfl rfl
  | some m =>
   by_cases hm:m=(n.length:Int)
   ·subst hm
    have hdm:decide ((n.length:Int)=(n.length:Int))=true:=decide_eq_true rfl
    have hF:=aHQ w n hk
    cases hst:lC w n with
    | none =>
     rw [hst] at hF
     simp only [aSD,jD] at hF
     have hR:=aBq o o w n ho ho hk
     cases hr:fE o o w n with
     | none =>
      rw [hr] at hR
      have hg:q9 o w ws=none:=by unfold q9; rw [hin]; simp [hk,hst,hr]
      rw [hg]
      repeat' (first|(simp only [hd,cK,dC,cP,hw0,hk,hdm,aF,aB,aK,aI,fA,gI,fT,iL,↓iS,↓wA,↓wC,wB,cU,cT,aZ,a6,a7,reduceIte,reduceCtorEq,aA,a8,dF])|(with_reducible refine cO ?_ ?_; focus omega)|(refine cO rfl ?_)|(refine cJ hF (by simp [dA,dK,nQ,D.unown,dS]) rfl ?_)|(refine dJ ?_)|(with_reducible refine aD ?_ ?_)|((first|apply cH|apply cI|apply cG)<;>intro h<;>try simp only [h]))
      all_goals
       refine aCv (oU rfl rfl rfl rfl (oU rfl rfl rfl rfl (aDQ (aDK rfl ⟨_,hR,?_⟩))))
       intro rs h
       obtain ⟨t,rfl⟩:=aJx h
       refine ⟨rfl,?_⟩
       repeat' (first|(simp only [cK,fA,gI,fT,↓iS,↓wA,↓wC,wB,aZ,a6,reduceIte,aA,dF])|((first|apply cH|apply cI|apply cG)<;>intro h<;>try simp only [h]))
       exact cO rfl (cO rfl (eX _ rfl rfl))
     | some r =>
      rw [hr] at hR
      have hg:q9 o w ws=some (none,r):=by unfold q9; rw [hin]; simp [hk,hst,hr]
      rw [hg]
      repeat' (first|(simp only [hd,cK,dC,cP,hw0,hk,hdm,aF,aB,aK,aI,fA,gI,fT,iL,↓iS,↓wA,↓wC,wB,cU,cT,aZ,a6,a7,reduceIte,reduceCtorEq,aA,a8,dF])|(with_reducible refine cO ?_ ?_; focus omega)|(refine cO rfl ?_)|(refine cJ hF (by simp [dA,dK,nQ,D.unown,dS]) rfl ?_)|(refine dJ ?_)|(with_reducible refine aD ?_ ?_)|((first|apply cH|apply cI|apply cG)<;>intro h<;>try simp only [h]))
      all_goals
       refine aCv (oU rfl rfl rfl rfl (oU rfl rfl rfl rfl (aDQ (aDK rfl ⟨_,hR,?_⟩))))
       intro rs h
       obtain rfl:=aGI h
       refine ⟨rfl,?_⟩
       repeat' (first|(simp only [cK,fA,gI,fT,↓iS,↓wA,↓wC,wB,aZ,a6,reduceIte,aA,dF])|((first|apply cH|apply cI|apply cG)<;>intro h<;>try simp only [h]))
       exact cO rfl (cO rfl (eX _ rfl rfl))
    | some s =>
     rw [hst] at hF
     simp only [aSD,jD] at hF
     have hT:=aGc o s.k s.i s.a s.v (eU ho)
     cases hq:gO o s.k s.i s.a s.v with
     | none =>
      rw [hq] at hT
      simp only [rV,jD] at hT
      have hg:q9 o w ws=none:=by unfold q9; rw [hin]; simp [hk,hst,hq]
      rw [hg]
      repeat' (first|(simp only [hd,cK,dC,cP,hw0,hk,hdm,aF,aB,aK,aI,fA,gI,fT,iL,↓iS,↓wA,↓wC,wB,cU,cT,aZ,a6,a7,reduceIte,reduceCtorEq,aA,a8,dF])|(with_reducible refine cO ?_ ?_; focus omega)|(refine cO rfl ?_)|(refine cJ hF (by simp [dA,dK,nQ,D.unown,dS]) rfl ?_)|((first|apply cH|apply cI|apply cG)<;>intro h<;>try simp only [h]))
      refine dB (gH.refl _) ?_
      repeat' (first|(simp only [cK,fA,gI,fT,iL,↓iS,↓wA,↓wC,wB,cU,cT,aZ,a6,a7,reduceIte,reduceCtorEq,aA,a8,dF])|((first|apply cH|apply cI|apply cG)<;>intro h<;>try simp only [h]))
      refine aCv (oU rfl rfl rfl rfl ⟨_,hT,?_⟩)
      rintro _ rfl
      refine ⟨by simp [aYj,D.allOwn],?_⟩
      repeat' (first|(simp only [cK,hqo,aYe,aYc,fA,gI,fT,↓iS,↓wA,↓wC,wB,aZ,a6,reduceIte,aA,dF])|(refine cO rfl ?_)|((first|apply cH|apply cI|apply cG)<;>intro h<;>try simp only [h]))
      exact eX _ rfl rfl
     | some q =>
      rw [hq] at hT
      simp only [rV,jD] at hT
      obtain ⟨r,hr⟩:=aIv hst hq
      have hg:q9 o w ws=some (some q,r):=by unfold q9; rw [hin]; simp [hk,hst,hq,hr]
      rw [hg]
      have hR:=aBq o q w n ho (xO hq) hk
      rw [hr] at hR
      have hR:=aN1 hR fun _ h=>aGI h
      repeat' (first|(simp only [hd,cK,dC,cP,hw0,hk,hdm,aF,aB,aK,aI,fA,gI,fT,iL,↓iS,↓wA,↓wC,wB,cU,cT,aZ,a6,a7,reduceIte,reduceCtorEq,aA,a8,dF])|(with_reducible refine cO ?_ ?_; focus omega)|(refine cO rfl ?_)|(refine cJ hF (by simp [dA,dK,nQ,D.unown,dS]) rfl ?_)|((first|apply cH|apply cI|apply cG)<;>intro h<;>try simp only [h]))
      refine dB (s':=⟨[(1,.d (.sl false 1 (dl D.str (w :: ws)))),(2,.ptr 4 0 []),(4,.ptr 5 0 []),(7,.own 6),(15,.ptr 8 0 []),(16,.ptr 9 0 [])],[.dead,.dead,.tag 0 v1,.tag 1 v2,.box o.s,.box aC6.o,.val (.sl true 1 (dl iD n)),.mp pV,.box (n6 o 2 3 v1 v2),.box (jD s.k s.i s.a s.v)]⟩) ((iU 4 2 0 none [1] rfl rfl rfl rfl (by decide) rfl).trans ((iU 4 3 1 none [4] rfl rfl rfl rfl (by decide) rfl).trans (cV [] rfl ⟨⟨rfl,rfl⟩,⟨rfl,rfl⟩,⟨rfl,rfl⟩,⟨rfl,rfl⟩,⟨rfl,rfl⟩,⟨rfl,rfl⟩,trivial⟩))) ?_
      simp only [jD]
      repeat' (first|(simp only [cK,hqo,aXW,aXX,aX2,↓dL,aYe,aYc,↓wA,↓wC,wB,cU,cT,aZ,a6,a7,reduceIte,reduceCtorEq,aA,a8,dF])|(refine cO rfl ?_)|(refine dJ ?_)|(with_reducible refine aD ?_ ?_)|(refine cJ hT (by simp [dA,dK]) rfl ?_)|((first|apply cH|apply cI|apply cG)<;>intro h<;>try simp only [h]))
      refine eX (.cons (.int .i64 q.day) (.cons (.sl true 4 (dl Cs.o q.cs)) (.cons (.int .i64 q.kept) (.cons (.int .i64 q.moved) (.cons (.sl true 1 (dl D.str q.led)) .nil))))) rfl (cO rfl (cO rfl ?_))
      rw [show D.st (.cons (.int .i64 q.day) (.cons (.sl true 4 (dl Cs.o q.cs)) (.cons (.int .i64 q.kept) (.cons (.int .i64 q.moved) (.cons (.sl true 1 (dl D.str q.led)) .nil)))))=q.o from rfl]
      repeat' (first|(simp only [cK,dC,hw0,aF,aB,hqo,aYc,↓wA,↓wC,wB,aZ,a6,reduceIte,aA,dF])|(with_reducible refine cO ?_ ?_; focus omega)|(refine cO rfl ?_)|(refine dJ ?_)|(with_reducible refine aD ?_ ?_)|(refine cJ hR (by show some [o.s,q.o.unown,D.str w,(D.sl true 1 (dl iD n)).unown]=_; rw [aX5]; simp [D.unown,dS]) rfl ?_)|((first|apply cH|apply cI|apply cG)<;>intro h<;>try simp only [h]))
      all_goals exact eX _ rfl (cO rfl (cO rfl (cO rfl rfl)))
   ·have hdm:decide (m=(n.length:Int))=false:=decide_eq_false hm
    have hg:q9 o w ws=none:=by unfold q9; rw [hin]; simp only [hk]; exact if_neg (fun e=>by injection e with e; exact hm e)
    rw [hg]
    repeat' (first|(simp only [hd,cK,dC,cP,hw0,hk,hdm,aF,aB,aK,aI,fA,gI,fT,↓iS,↓wA,↓wC,wB,aZ,a6,reduceIte,aA,dF])|(with_reducible refine cO ?_ ?_; focus omega)|(refine cO rfl ?_)|((first|apply cH|apply cI|apply cG)<;>intro h<;>try simp only [h]))
    exact eX _ rfl rfl
theorem aIB (q1 q2 q3 q4:Nat) (o:Off) (v1 v2:Value) (w:List UInt8) (ws:List (List UInt8)) (ho:dN o=true) (hl:ws.length<=1000) (hs:∀ s∈ws,s.length<=1000) :
  FnL prog 37 (oLs o v1 v2) [n6 o q1 q2 v1 v2,.sl false 1 (dl D.str (w :: ws))] (fun rs=>rs=aMy (n6 o q3 q4 v1 v2) (q9 o w ws)):=by
 intro M vs w0 hM hg hL hv
 refine (aK9 o v1 v2 w ws ho hl hs M vs w0 hM hg hL hv).mono ?_
 rintro e w' ⟨rs,us,fp,h1,rfl,h2,h3⟩
 refine ⟨_,us,fp,h1,rfl,?_,h3⟩
 cases ha:q9 o w ws with
 | none=>rw [ha] at h2; exact h2
 | some y =>
  obtain ⟨_|q,r⟩:=y
  ·rw [ha] at h2; exact h2
  ·rw [ha] at h2; exact h2
def aBt (d p:List UInt8) (k:Int) (c r:List UInt8):List UInt8×List UInt8×Int :=
 if lv d p k=true/\fV c r=true then (if k=60 then (d,p,k) else (d,p ++ (lD k c r ++ [10]),k + 1)) else (d,p,k)
theorem sD (d p:List UInt8) (k:Int) (c r:List UInt8):∃ n,aKO d p k c r=[eQ (aBt d p k c r).1 (aBt d p k c r).2.1 (aBt d p k c r).2.2,.int .i64 n]:=by
 unfold aKO aBt
 split
 ·split<;>exact ⟨_,rfl⟩
 ·exact ⟨_,rfl⟩
def aAJ (r:List UInt8):List UInt8:=if 200 < (r.length:Int) then [108,111,110,103] else r
def exA (x:Con) (l:List UInt8) (a:Option (Off×List UInt8)):Con×List UInt8 :=
 let r:=aAJ ((a.map (·.2)).getD qm)
 let g:=aBt x.d x.p x.c l r
 (⟨(a.map (·.1)).getD x.o,g.1,g.2.1,g.2.2⟩,r)
def yD (x:Con) (l:List UInt8):Con×List UInt8 :=
 if pH x=true then
  if fV l []=true then
   if x.c=60 then (x,[102,117,108,108]) else exA x l (aAK x.o ((parts 32 l).headD []) (parts 32 l).tail)
  else (x,[98,97,100])
 else (x,[110,111])
theorem aFv (x:UInt8) (s:List UInt8):∃ w ws,parts x s=w :: ws:=by
 have h:=rZ x s
 cases hp:parts x s with
 | nil=>rw [hp] at h; cases h
 | cons w ws=>exact ⟨w,ws,rfl⟩
theorem aB2 (x:Con) (h:x.ok0):Fn prog 35 [x.s] (fun rs=>rs=[x.o']):=by
 have hC:=vP x.o h.1
 refine cW aTS [[1,0]] ?_
 dsimp only [aTS,m35,rF,cS,cE,cR,c8]
 try simp only [wQ]
 repeat' (first|(simp only [aXZ,aXY,cK,↓wA,↓wC,wB,cU,cT,aZ,a6,a7,reduceIte,reduceCtorEq,aA,a8,eR])|((first|apply cH|apply cI|apply cG)<;>intro h<;>try simp only [h]))
 refine dB (gJ 0 rfl) ?_
 simp only [cU,cT,aYa,↓wA,↓wC,wB,cU,cT,aZ,a6,a7,reduceIte,reduceCtorEq,aA,a8,eR]
 repeat' (first|(simp only [nT,aAZ,fD,gK,kF,↓dL,↓jK,aYe,aYc,aYd,cK,↓wA,↓wC,wB,aZ,a6,reduceIte,aA,eR])|(refine cO rfl ?_)|(refine dJ ?_)|(with_reducible refine aD ?_ ?_)|(refine cJ hC (by simp [dA,dK]) rfl ?_)|((first|apply cH|apply cI|apply cG)<;>intro h<;>try simp only [h]))
 all_goals rfl
def aQi:D:=rE aC6.o (eQ [] [] 0)
theorem aX8 (x:Con):x.o'.noOwn=false:=by simp [Con.o',rE,D.noOwn,aYd]
theorem aLT {x:Con} {l:List UInt8} (h:pH x=false):yD x l=(x,[110,111]):=by unfold yD; rw [if_neg (by rw [h]; decide)]
theorem aJm {x:Con} {l:List UInt8} (h:pH x=true) (h2:fV l []=false):yD x l=(x,[98,97,100]):=by unfold yD; rw [if_pos h,if_neg (by rw [h2]; decide)]
theorem aFG {x:Con} {l:List UInt8} (h:pH x=true) (h2:fV l []=true) (h3:x.c=60):yD x l=(x,[102,117,108,108]):=by unfold yD; rw [if_pos h,if_pos h2,if_pos h3]
theorem aLx {x:Con} {l w:List UInt8} {ws:List (List UInt8)} (h:pH x=true) (h2:fV l []=true) (h3:¬ x.c=60) (hp:parts 32 l=w :: ws):yD x l=exA x l (aAK x.o w ws):=by
 unfold yD; rw [if_pos h,if_pos h2,if_neg h3,hp]; rfl
theorem aFj (x:Con) (l:List UInt8) (h:x.ok0) (hl:l.length<=1048576):Fn prog 13 [x.s,.str l] (fun rs=>rs=[(yD x l).1.o',.str (yD x l).2]):=by
 have hV:=xL x h
 have hC:=aB2 x h
 have hml:l.length<=maxLen:=by rw [d5]; omega
 have hR:=mJ l [] hml (by rw [d5]; decide)
 cases hv:pH x with
 | false =>
  rw [hv] at hV
  rw [aLT hv]
  refine cW aFq [] ?_
  dsimp only [aFq,m13,rF,cS,cE,cR,c8]
  try simp only [wQ]
  repeat' (first|(simp only [aXZ,aXY,↓eV,aX8,aYf,aX9,cK,↓wA,↓wC,wB,aZ,a6,reduceIte,reduceCtorEq,aA,eR])|(refine cO rfl ?_)|(refine cJ hV (by simp [dA,dK]) rfl ?_)|(refine cJ hC (by simp [dA,dK]) rfl ?_)|((first|apply cH|apply cI|apply cG)<;>intro h<;>try simp only [h]))
  exact eX _ rfl rfl
 | true =>
  rw [hv] at hV
  cases hr:fV l [] with
  | false =>
   rw [hr] at hR
   rw [aJm hv hr]
   refine cW aFq [] ?_
   dsimp only [aFq,m13,rF,cS,cE,cR,c8]
   try simp only [wQ]
   repeat' (first|(simp only [aXZ,aXY,↓eV,aX8,aYf,aX9,cK,↓wA,↓wC,wB,aZ,a6,reduceIte,reduceCtorEq,aA,eR])|(refine cO rfl ?_)|(refine cJ hV (by simp [dA,dK]) rfl ?_)|(refine cJ hC (by simp [dA,dK]) rfl ?_)|(refine cJ hR rfl rfl ?_)|((first|apply cH|apply cI|apply cG)<;>intro h<;>try simp only [h]))
   exact eX _ rfl rfl
  | true =>
   rw [hr] at hR
   by_cases hc:x.c=60
   ·have hd:decide (x.c=60)=true:=decide_eq_true hc
    rw [aFG hv hr hc]
    refine cW aFq [] ?_
    dsimp only [aFq,m13,rF,cS,cE,cR,c8]
    try simp only [wQ]
    repeat' (first|(simp only [hd,tX,tM,aXZ,aXY,↓eV,aX8,aYf,aX9,cK,↓wA,↓wC,wB,aZ,a6,reduceIte,reduceCtorEq,aA,eR])|(refine cO rfl ?_)|(refine cJ hV (by simp [dA,dK]) rfl ?_)|(refine cJ hC (by simp [dA,dK]) rfl ?_)|(refine cJ hR rfl rfl ?_)|((first|apply cH|apply cI|apply cG)<;>intro h<;>try simp only [h]))
    exact eX _ rfl rfl
   ·have hd:decide (x.c=60)=false:=decide_eq_false hc
    obtain ⟨w,ws,hp⟩:=aFv 32 l
    rw [aLx hv hr hc hp]
    have hP:=aMJ l 32 (by omega)
    rw [hp] at hP
    refine cW aFq [[1,1,1,1,1,0,0],[1,1,1,1,1,0,0],[1,1,1,0],[1,1,1,0],[1,1,1,0]] ?_
    dsimp only [aFq,m13,rF,cS,cE,cR,c8]
    try simp only [wQ]
    repeat' (first|(simp only [hd,tX,tM,aXZ,aXY,aX0,↓eV,aX8,aYf,aX9,cK,↓wA,↓wC,wB,cU,cT,aZ,a6,a7,reduceIte,reduceCtorEq,aA,a8,eR])|(refine cO rfl ?_)|(refine cJ hV (by simp [dA,dK]) rfl ?_)|(refine cJ hC (by simp [dA,dK]) rfl ?_)|(refine cJ hR rfl rfl ?_)|((first|apply cH|apply cI|apply cG)<;>intro h<;>try simp only [h]))
    refine eY _ (fL 3 none [0,1] (es:=4) (xs:=dl Cs.o x.o.cs) rfl rfl) fun v1=>?_
    simp only [eD,cY,cZ,fD,cK,↓wA,↓wC,wB,cU,cT,aZ,a6,a7,reduceIte,reduceCtorEq,aA,a8,eR]
    refine eY _ (fL 3 none [0,4] (es:=1) (xs:=dl D.str x.o.led) rfl rfl) fun v2=>?_
    simp only [eD,cY,cZ,fD,cK,↓wA,↓wC,wB,cU,cT,aZ,a6,a7,reduceIte,reduceCtorEq,aA,a8,eR]
    refine dB (s':=⟨[(1,.d (.str l)),(4,.ptr 1 0 []),(6,.ptr 3 0 [])],[.box x.s,.box aQi,.dead,.box (rE (n6 x.o 5 7 v1 v2) (eQ x.d x.p x.c)),.val (.sl true 4 (dl Cs.o x.o.cs)),.tag 4 v1,.val (.sl true 1 (dl D.str x.o.led)),.tag 6 v2]⟩) (cV _ rfl ⟨⟨rfl,rfl⟩,⟨rfl,rfl⟩,⟨rfl,rfl⟩,trivial⟩) ?_
    have hso:=kE hr
    have hws:∀ s∈w :: ws,s.length<=1000:=fun s hs=>by
     rw [<- hp] at hs
     have:=aF7 32 l s hs
     omega
    have hwl:ws.length<=1000:=by
     have h1:=aDE 32 l
     rw [hp,aC] at h1
     omega
    have hoff:dN x.o=true:=by
     simp only [pH,aL] at hv
     exact hv.1
    have hA:=aIB 5 7 5 7 x.o v1 v2 w ws hoff hwl (fun s hs=>hws s (aO _ hs))
    have hg0:gG [0] (rE (n6 x.o 5 7 v1 v2) (eQ x.d x.p x.c))=some (n6 x.o 5 7 v1 v2):=rfl
    have hg1:fB [0] (rE (n6 x.o 5 7 v1 v2) (eQ x.d x.p x.c))=0:=rfl
    rw [aSy]
    cases ha:q9 x.o w ws with
    | none =>
     rw [ha] at hA
     simp only [aMy] at hA
     repeat' (first|(simp only [cK,hg0,hg1,fA,gI,fT,iL,↓iS,↓wA,↓wC,wB,cU,cT,aZ,a6,a7,reduceIte,reduceCtorEq,aA,a8,eR])|(refine cO rfl ?_)|(refine dJ ?_)|(with_reducible refine aD ?_ ?_)|(refine cJ hP rfl rfl ?_)|(refine aAi hA (by simp [dA,dK,nQ,D.unown,u5]) ⟨⟨5,4,true,dl Cs.o x.o.cs,rfl,rfl,(pZ _).symm⟩,⟨7,6,true,dl D.str x.o.led,rfl,rfl,(gD _).symm⟩,trivial⟩ (by simp [D.allOwn,n6,dQ]) ?_)|((first|apply cH|apply cI|apply cG)<;>intro h<;>try simp only [h]))
     all_goals
      refine dB (iU 3 5 4 none [0,1] (v:=v1) (ow:=true) (es:=4) (xs:=dl Cs.o x.o.cs) (ob:=.box (rE (n6 x.o 5 7 v1 v2) (eQ x.d x.p x.c))) (ob':=.box (rE (dQ x.o (.sl true 4 (dl Cs.o x.o.cs)) (.lnk 7 v2)) (eQ x.d x.p x.c))) rfl rfl rfl rfl (by decide) rfl) ?_
      simp only [↓wA,↓wC,wB,cU,cT,aZ,a6,a7,reduceIte,reduceCtorEq,aA,a8,eR]
      refine dB (iU 3 7 6 none [0,4] (v:=v2) (ow:=true) (es:=1) (xs:=dl D.str x.o.led) (ob:=.box (rE (dQ x.o (.sl true 4 (dl Cs.o x.o.cs)) (.lnk 7 v2)) (eQ x.d x.p x.c))) (ob':=.box x.o') rfl rfl rfl rfl (by decide) rfl) ?_
      simp only [Option.map_none,aS,exA]
      have hdl:decide ((200:Int) < ((1:Nat):Int))=false:=rfl
      rw [show aAJ qm=[63] from rfl]
      have hs1:gG [1] (x).o'=some (eQ x.d x.p x.c):=rfl
      have hs2:fB [1] (x).o'=5:=rfl
      have hds:∀ a b c,j7 [1] (x).o' (eQ a b c)=(Con.mk (x).o a b c).o':=fun _ _ _=>rfl
      obtain ⟨nn,hap⟩:=sD x.d x.p x.c l [63]
      have hAp:=kX x.d x.p x.c l [63] h.2 hml (by rw [d5]; first|decide|omega)
      rw [hap] at hAp
      simp only [lZ] at hAp
      repeat' (first|(simp only [cK,hs1,hs2,hds,hdl,fD,gK,kF,↓jK,aX8,aX9,↓wA,↓wC,wB,aZ,a6,reduceIte,aA,eR])|(refine cO rfl ?_)|(refine cJ hAp rfl rfl ?_)|((first|apply cH|apply cI|apply cG)<;>intro h<;>try simp only [h]))
      all_goals exact eX _ rfl (cO rfl (cO rfl (cO rfl rfl)))
    | some y =>
     obtain ⟨yo,r⟩:=y
     cases yo with
     | none =>
      rw [ha] at hA
      simp only [aMy] at hA
      repeat' (first|(simp only [cK,hg0,hg1,fA,gI,fT,iL,↓iS,↓wA,↓wC,wB,cU,cT,aZ,a6,a7,reduceIte,reduceCtorEq,aA,a8,eR])|(refine cO rfl ?_)|(refine dJ ?_)|(with_reducible refine aD ?_ ?_)|(refine cJ hP rfl rfl ?_)|(refine aAi hA (by simp [dA,dK,nQ,D.unown,u5]) ⟨⟨5,4,true,dl Cs.o x.o.cs,rfl,rfl,(pZ _).symm⟩,⟨7,6,true,dl D.str x.o.led,rfl,rfl,(gD _).symm⟩,trivial⟩ (by simp [D.allOwn,n6,dQ]) ?_)|((first|apply cH|apply cI|apply cG)<;>intro h<;>try simp only [h]))
      all_goals
       refine dB (iU 3 5 4 none [0,1] (v:=v1) (ow:=true) (es:=4) (xs:=dl Cs.o x.o.cs) (ob:=.box (rE (n6 x.o 5 7 v1 v2) (eQ x.d x.p x.c))) (ob':=.box (rE (dQ x.o (.sl true 4 (dl Cs.o x.o.cs)) (.lnk 7 v2)) (eQ x.d x.p x.c))) rfl rfl rfl rfl (by decide) rfl) ?_
       simp only [↓wA,↓wC,wB,cU,cT,aZ,a6,a7,reduceIte,reduceCtorEq,aA,a8,eR]
       refine dB (iU 3 7 6 none [0,4] (v:=v2) (ow:=true) (es:=1) (xs:=dl D.str x.o.led) (ob:=.box (rE (dQ x.o (.sl true 4 (dl Cs.o x.o.cs)) (.lnk 7 v2)) (eQ x.d x.p x.c))) (ob':=.box x.o') rfl rfl rfl rfl (by decide) rfl) ?_
       simp only [aB,aI,aS,exA]
       by_cases hlong:200 < (r.length:Int)
       ·have hdl:decide (200 < (r.length:Int))=true:=decide_eq_true hlong
        rw [show aAJ r=[108,111,110,103] from if_pos hlong]
        have hs1:gG [1] (x).o'=some (eQ x.d x.p x.c):=rfl
        have hs2:fB [1] (x).o'=5:=rfl
        have hds:∀ a b c,j7 [1] (x).o' (eQ a b c)=(Con.mk (x).o a b c).o':=fun _ _ _=>rfl
        obtain ⟨nn,hap⟩:=sD x.d x.p x.c l [108,111,110,103]
        have hAp:=kX x.d x.p x.c l [108,111,110,103] h.2 hml (by rw [d5]; first|decide|omega)
        rw [hap] at hAp
        simp only [lZ] at hAp
        repeat' (first|(simp only [cK,hs1,hs2,hds,hdl,fD,gK,kF,↓jK,aX8,aX9,↓wA,↓wC,wB,aZ,a6,reduceIte,aA,eR])|(refine cO rfl ?_)|(refine cJ hAp rfl rfl ?_)|((first|apply cH|apply cI|apply cG)<;>intro h<;>try simp only [h]))
        all_goals exact eX _ rfl (cO rfl (cO rfl (cO rfl rfl)))
       ·have hdl:decide (200 < (r.length:Int))=false:=decide_eq_false hlong
        rw [show aAJ r=r from if_neg hlong]
        have hs1:gG [1] (x).o'=some (eQ x.d x.p x.c):=rfl
        have hs2:fB [1] (x).o'=5:=rfl
        have hds:∀ a b c,j7 [1] (x).o' (eQ a b c)=(Con.mk (x).o a b c).o':=fun _ _ _=>rfl
        obtain ⟨nn,hap⟩:=sD x.d x.p x.c l r
        have hAp:=kX x.d x.p x.c l r h.2 hml (by rw [d5]; first|decide|omega)
        rw [hap] at hAp
        simp only [lZ] at hAp
        repeat' (first|(simp only [cK,hs1,hs2,hds,hdl,fD,gK,kF,↓jK,aX8,aX9,↓wA,↓wC,wB,aZ,a6,reduceIte,aA,eR])|(refine cO rfl ?_)|(refine cJ hAp rfl rfl ?_)|((first|apply cH|apply cI|apply cG)<;>intro h<;>try simp only [h]))
        all_goals exact eX _ rfl (cO rfl (cO rfl (cO rfl rfl)))
     | some q =>
      rw [ha] at hA
      simp only [aMy] at hA
      repeat' (first|(simp only [cK,aYd,aYe,aYc,hg0,hg1,fA,gI,fT,iL,↓iS,↓wA,↓wC,wB,cU,cT,aZ,a6,a7,reduceIte,reduceCtorEq,aA,a8,eR])|(refine cO rfl ?_)|(refine dJ ?_)|(with_reducible refine aD ?_ ?_)|(refine cJ hP rfl rfl ?_)|(refine aAi hA (by simp [dA,dK,nQ,D.unown,u5]) ⟨⟨5,4,true,dl Cs.o x.o.cs,rfl,rfl,(pZ _).symm⟩,⟨7,6,true,dl D.str x.o.led,rfl,rfl,(gD _).symm⟩,trivial⟩ (by simp [D.allOwn,aYj]) ?_)|((first|apply cH|apply cI|apply cG)<;>intro h<;>try simp only [h]))
      all_goals
       refine eX (.cons (.int .i64 q.day) (.cons (.sl true 4 (dl Cs.o q.cs)) (.cons (.int .i64 q.kept) (.cons (.int .i64 q.moved) (.cons (.sl true 1 (dl D.str q.led)) .nil))))) rfl (cO rfl (cO rfl ?_))
       rw [show j7 [0] (rE (n6 x.o 5 7 v1 v2) (eQ x.d x.p x.c)) (D.st (.cons (.int .i64 q.day) (.cons (.sl true 4 (dl Cs.o q.cs)) (.cons (.int .i64 q.kept) (.cons (.int .i64 q.moved) (.cons (.sl true 1 (dl D.str q.led)) .nil))))))=(Con.mk q x.d x.p x.c).o' from rfl]
       refine dB (gH.refl _) ?_
       refine dB (gH.refl _) ?_
       simp only [aB,aI,exA]
       by_cases hlong:200 < (r.length:Int)
       ·have hdl:decide (200 < (r.length:Int))=true:=decide_eq_true hlong
        rw [show aAJ r=[108,111,110,103] from if_pos hlong]
        have hs1:gG [1] (Con.mk q x.d x.p x.c).o'=some (eQ x.d x.p x.c):=rfl
        have hs2:fB [1] (Con.mk q x.d x.p x.c).o'=5:=rfl
        have hds:∀ a b c,j7 [1] (Con.mk q x.d x.p x.c).o' (eQ a b c)=(Con.mk (Con.mk q x.d x.p x.c).o a b c).o':=fun _ _ _=>rfl
        obtain ⟨nn,hap⟩:=sD x.d x.p x.c l [108,111,110,103]
        have hAp:=kX x.d x.p x.c l [108,111,110,103] h.2 hml (by rw [d5]; first|decide|omega)
        rw [hap] at hAp
        simp only [lZ] at hAp
        repeat' (first|(simp only [cK,hs1,hs2,hds,hdl,fD,gK,kF,↓jK,aX8,aX9,↓wA,↓wC,wB,aZ,a6,reduceIte,aA,eR])|(refine cO rfl ?_)|(refine cJ hAp rfl rfl ?_)|((first|apply cH|apply cI|apply cG)<;>intro h<;>try simp only [h]))
        all_goals exact eX _ rfl (cO rfl (cO rfl (cO rfl rfl)))
       ·have hdl:decide (200 < (r.length:Int))=false:=decide_eq_false hlong
        rw [show aAJ r=r from if_neg hlong]
        have hs1:gG [1] (Con.mk q x.d x.p x.c).o'=some (eQ x.d x.p x.c):=rfl
        have hs2:fB [1] (Con.mk q x.d x.p x.c).o'=5:=rfl
        have hds:∀ a b c,j7 [1] (Con.mk q x.d x.p x.c).o' (eQ a b c)=(Con.mk (Con.mk q x.d x.p x.c).o a b c).o':=fun _ _ _=>rfl
        obtain ⟨nn,hap⟩:=sD x.d x.p x.c l r
        have hAp:=kX x.d x.p x.c l r h.2 hml (by rw [d5]; first|decide|omega)
        rw [hap] at hAp
        simp only [lZ] at hAp
        repeat' (first|(simp only [cK,hs1,hs2,hds,hdl,fD,gK,kF,↓jK,aX8,aX9,↓wA,↓wC,wB,aZ,a6,reduceIte,aA,eR])|(refine cO rfl ?_)|(refine cJ hAp rfl rfl ?_)|((first|apply cH|apply cI|apply cG)<;>intro h<;>try simp only [h]))
        all_goals exact eX _ rfl (cO rfl (cO rfl (cO rfl rfl)))
theorem aHo (o:Off) (ho:o.ok0):Fn prog 52 [o.s] (fun rs=>rs=[o.s]):=by
 simpa [aYb] using fH (jG o ho)
theorem aDk (x:Con) (h:x.ok0):Fn prog 28 [x.s] (fun rs=>rs=[x.s]):=by
 have hC:=aHo x.o h.1
 refine cW aTF [[1,0]] ?_
 dsimp only [aTF,m28,rF,cS,cE,cR,c8]
 try simp only [wQ]
 repeat' (first|(simp only [aXZ,aXY,cK,↓wA,↓wC,wB,cU,cT,aZ,a6,a7,reduceIte,reduceCtorEq,aA,a8,eR])|((first|apply cH|apply cI|apply cG)<;>intro h<;>try simp only [h]))
 refine dB (gJ 0 rfl) ?_
 simp only [cU,cT,aYa,↓wA,↓wC,wB,cU,cT,aZ,a6,a7,reduceIte,reduceCtorEq,aA,a8,eR]
 repeat' (first|(simp only [nT,aAZ,fD,gK,kF,↓dL,↓jK,aXW,aXX,aX2,cK,↓wA,↓wC,wB,aZ,a6,reduceIte,eR])|(refine cO rfl ?_)|(refine dJ ?_)|(with_reducible refine aD ?_ ?_)|(refine cJ hC (by simp [dA,dK]) rfl ?_)|((first|apply cH|apply cI|apply cG)<;>intro h<;>try simp only [h]))
 all_goals rfl
theorem aE3 {x:Off} {K:SV->Prop}:dD 2 2 (.d (.ptr x.s)) K=K (.d (.ptr (.int .i64 x.kept))):=by simp [Off.s,dQ,dD,D.pre,D.nth,D.size]
theorem aEx {x:Off} {K:SV->Prop}:dD 3 3 (.d (.ptr x.s)) K=K (.d (.ptr (.int .i64 x.moved))):=by simp [Off.s,dQ,dD,D.pre,D.nth,D.size]
theorem aEp {x:Off} {K:SV->Prop}:dD 4 4 (.d (.ptr x.s)) K=K (.d (.ptr (.sl false 1 (dl D.str x.led)))):=by simp [Off.s,dQ,dD,D.pre,D.nth,D.size]
theorem aHk (o:Off) (l:List UInt8) (ho:dN o=true):Fn prog 57 [o.s,.str l] (fun rs=>rs=[.str (kQ o l)]):=by
 have hp:=eF ho
 have hk:∀ {v:List UInt8},l=v->kQ o l=kQ o v:=fun e=>congrArg (kQ o) e
 by_cases h6:l=uE
 ·have hI:=wI l 6 (by subst h6; rfl)
  have hD:=fI o.day (by omega) (by simp only [dX]; omega)
  rw [hk h6,aRr]
  refine cW aAQ [] ?_
  dsimp only [aAQ,m57,rF,cS,cE,cR,c8]
  try simp only [wQ]
  repeat' (first|(simp only [hI,cK,sO,sM,aXW,aXX,↓wA,↓wC,wB,cU,cT,aZ,a6,a7,reduceIte,reduceCtorEq,aA,a8,eR])|(refine cJ (hD) rfl rfl ?_)|(refine cL (hD) rfl rfl ?_)|((first|apply cH|apply cI|apply cG)<;>intro h<;>try simp only [h]))
 by_cases h7:l=uD
 ·have hI:=wI l 7 (by subst h7; rfl)
  have hH:=aF6 o ho
  have hL:=o6 _ true (aCi (qW o) ho)
  rw [hk h7,aRy,show aAV (qW o) o=some _ from if_pos ho]
  refine cW aAQ [] ?_
  dsimp only [aAQ,m57,rF,cS,cE,cR,c8]
  try simp only [wQ]
  repeat' (first|(simp only [hI,cK,aXW,aXX,↓dL,dE,↓wA,↓wC,wB,cU,cT,aZ,a6,a7,reduceIte,reduceCtorEq,aA,a8,eR])|(refine cJ hH (by simp [dA,dK]) rfl ?_)|(refine cJ hL (by simp [dA,dK]) rfl ?_)|((first|apply cH|apply cI|apply cG)<;>intro h<;>try simp only [h]))
  all_goals rfl
 by_cases h8:l=f8
 ·have hI:=wI l 8 (by subst h8; rfl)
  have hH:=aGe o ho
  have hL:=o6 _ true (aCi (pS o) ho)
  rw [hk h8,aDC,show aAV (pS o) o=some _ from if_pos ho]
  refine cW aAQ [] ?_
  dsimp only [aAQ,m57,rF,cS,cE,cR,c8]
  try simp only [wQ]
  repeat' (first|(simp only [hI,cK,aXW,aXX,↓dL,dE,↓wA,↓wC,wB,cU,cT,aZ,a6,a7,reduceIte,reduceCtorEq,aA,a8,eR])|(refine cJ hH (by simp [dA,dK]) rfl ?_)|(refine cJ hL (by simp [dA,dK]) rfl ?_)|((first|apply cH|apply cI|apply cG)<;>intro h<;>try simp only [h]))
  all_goals rfl
 by_cases h9:l=nB
 ·have hI:=wI l 9 (by subst h9; rfl)
  have hH:=aGb o (eU ho)
  rw [aGq ho] at hH
  have hv:gA (yL o):=aFK
  have hD:=fI (yL o) hv.1 (kY hv)
  rw [hk h9,aLz,aGM ho]
  cases hl:eG o.led with
  | true =>
   rw [hl] at hH
   refine cW aAQ [] ?_
   dsimp only [aAQ,m57,rF,cS,cE,cR,c8]
   try simp only [wQ]
   repeat' (first|(simp only [hI,cK,aXW,aXX,↓dL,↓wA,↓wC,wB,cU,cT,aZ,a6,a7,reduceIte,reduceCtorEq,aA,a8,eR])|(refine cJ (hD) rfl rfl ?_)|(refine cL (hD) rfl rfl ?_)|(refine cJ hH (by simp [dA,dK]) rfl ?_)|((first|apply cH|apply cI|apply cG)<;>intro h<;>try simp only [h]))
   all_goals rfl
  | false =>
   rw [hl] at hH
   refine cW aAQ [] ?_
   dsimp only [aAQ,m57,rF,cS,cE,cR,c8]
   try simp only [wQ]
   repeat' (first|(simp only [hI,cK,aXW,aXX,↓dL,↓wA,↓wC,wB,cU,cT,aZ,a6,a7,reduceIte,reduceCtorEq,aA,a8,eR])|(refine cJ (hD) rfl rfl ?_)|(refine cL (hD) rfl rfl ?_)|(refine cJ hH (by simp [dA,dK]) rfl ?_)|((first|apply cH|apply cI|apply cG)<;>intro h<;>try simp only [h]))
   all_goals rfl
 ·have e:kQ o l=qm:=by unfold kQ; rw [if_neg h6,if_neg h7,if_neg h8,if_neg h9]
  have d6:decide (l=uE)=false:=decide_eq_false h6
  have d7:decide (l=uD)=false:=decide_eq_false h7
  have d8:decide (l=f8)=false:=decide_eq_false h8
  have d9:decide (l=nB)=false:=decide_eq_false h9
  rw [e]
  refine cW aAQ [] ?_
  dsimp only [aAQ,m57,rF,cS,cE,cR,c8]
  try simp only [wQ]
  repeat' (first|(simp only [d6,d7,d8,d9,cK,aXW,aXX,↓wA,↓wC,wB,cU,cT,aZ,a6,a7,reduceIte,reduceCtorEq,aA,a8,eR])|((first|apply cH|apply cI|apply cG)<;>intro h<;>try simp only [h]))
  all_goals rfl
def mkC (x:Con) (p:Off×List UInt8):List D:=[(Con.mk p.1 x.d x.p x.c).s,.str p.2]
theorem mK (x:Con) (s:Stp) (hv:dN x.o=true):Fn prog 60 [x.s,s.d] (fun rs=>rs=mkC x (nN x.o s)):=by
 have hT:=aE9 x.o s.k s.i s.a s.v (eU hv)
 have hsd:s.d=jD s.k s.i s.a s.v:=rfl
 rw [<- hsd] at hT
 have hsn:s.d.noOwn=true:=rfl
 have hsv:s.d.isV=true:=rfl
 have hsu:s.d.unown=s.d:=rfl
 have hrs:∀ (ob:List Ob) (K:SV->Prop),eI ob (some 4) s.d K=K (.d s.d):=fun ob K=>by rw [hsd]; simp [jD,eI,D.size,D.noOwn]
 have hf0:∀ K:SV->Prop,dD 0 0 (.d (.ptr s.d)) K=K (.d (.ptr (.int .i64 s.k))):=fun K=>by rw [hsd]; simp [jD,dD,D.pre,D.nth]
 have hf1:∀ K:SV->Prop,dD 1 1 (.d (.ptr s.d)) K=K (.d (.ptr (.int .i64 s.i))):=fun K=>by rw [hsd]; simp [jD,dD,D.pre,D.nth,D.size]
 have hf2:∀ K:SV->Prop,dD 2 2 (.d (.ptr s.d)) K=K (.d (.ptr (.int .i64 s.a))):=fun K=>by rw [hsd]; simp [jD,dD,D.pre,D.nth,D.size]
 have hf3:∀ K:SV->Prop,dD 3 3 (.d (.ptr s.d)) K=K (.d (.ptr (.int .i64 s.v))):=fun K=>by rw [hsd]; simp [jD,dD,D.pre,D.nth,D.size]
 unfold nN
 cases hq:gO x.o s.k s.i s.a s.v with
 | none =>
  have e1:t6 x.o s.k s.i s.a s.v=aC6:=by unfold t6; rw [hq]; rfl
  have e2:uB x.o s.k s.i s.a s.v=false:=by unfold uB; rw [hq]; rfl
  rw [e1,e2] at hT
  refine cW aO4 [[1,0]] ?_
  dsimp only [aO4,m60,rF,cS,cE,cR,c8]
  try simp only [wQ]
  repeat' (first|(simp only [aXZ,aXY,cK,hsn,hsv,↓wA,↓wC,wB,cU,cT,aZ,a6,a7,reduceIte,reduceCtorEq,aA,a8,eR])|((first|apply cH|apply cI|apply cG)<;>intro h<;>try simp only [h]))
  refine dB ((gJ 0 rfl).trans (gJ 1 rfl)) ?_
  simp only [cU,cT,aYa,hsu,↓wA,↓wC,wB,cU,cT,aZ,a6,a7,reduceIte,reduceCtorEq,aA,a8,eR]
  repeat' (first|(simp only [nT,aXY,aX0,aXW,aXX,aX2,↓eV,↓dL,cK,hrs,↓wA,↓wC,wB,aZ,a6,reduceIte,eR])|(refine cO rfl ?_)|(refine cJ hT (by simp [dA,dK]) rfl ?_)|((first|apply cH|apply cI|apply cG)<;>intro h<;>try simp only [h]))
  all_goals exact eX _ rfl rfl
 | some q =>
  have hqo:=xO hq
  have e1:t6 x.o s.k s.i s.a s.v=q:=by unfold t6; rw [hq]; rfl
  have e2:uB x.o s.k s.i s.a s.v=true:=by unfold uB; rw [hq]; rfl
  rw [e1,e2] at hT
  have hds:j7 [0] x.s q.s=(Con.mk q x.d x.p x.c).s:=rfl
  refine cW aO4 [[1,1,1,1,1,0,0],[1,1,1,0],[1,0]] ?_
  dsimp only [aO4,m60,rF,cS,cE,cR,c8]
  try simp only [wQ]
  repeat' (first|(simp only [aXZ,aXY,cK,hsn,hsv,↓wA,↓wC,wB,cU,cT,aZ,a6,a7,reduceIte,reduceCtorEq,aA,a8,eR])|((first|apply cH|apply cI|apply cG)<;>intro h<;>try simp only [h]))
  refine dB ((gJ 0 rfl).trans (gJ 1 rfl)) ?_
  simp only [cU,cT,aYa,hsu,↓wA,↓wC,wB,cU,cT,aZ,a6,a7,reduceIte,reduceCtorEq,aA,a8,eR]
  repeat' (first|(simp only [nT,aAZ,x8,aE3,aEx,aEp,hf0,hf1,hf2,hf3,aXZ,aXY,aX0,aXW,aXX,aX2,cZ,cP,↓eV,↓dL,cK,hrs,↓wA,↓wC,wB,cU,cT,aZ,a6,a7,reduceIte,reduceCtorEq,aA,a8,eR])|(refine cO rfl ?_)|(refine cJ hT (by simp [dA,dK]) rfl ?_)|((first|apply cH|apply cI|apply cG)<;>intro h<;>try simp only [h]))
  refine dB (gJ 3 rfl) ?_
  simp only [cU,cT,aX1,↓wA,↓wC,wB,cU,cT,aZ,a6,a7,reduceIte,reduceCtorEq,aA,a8,eR]
  repeat' (first|(simp only [hds,aFa,nT,aAZ,x8,aE3,aEx,aEp,hf0,hf1,hf2,hf3,aXZ,aXY,aX0,aXW,aXX,aX2,cZ,cP,↓eV,↓dL,cK,hrs,↓wA,↓wC,wB,cU,cT,aZ,a6,a7,reduceIte,reduceCtorEq,aA,a8,eR])|(refine cO rfl ?_)|(refine cJ hT (by simp [dA,dK,aX1,hsu]) rfl ?_)|((first|apply cH|apply cI|apply cG)<;>intro h<;>try simp only [h]))
  refine eX _ rfl (cO rfl ?_)
  refine dB (gJ 4 rfl) ?_
  simp only [cU,cT,aYa,↓wA,↓wC,wB,cU,cT,aZ,a6,a7,reduceIte,reduceCtorEq,aA,a8,eR]
  by_cases k1:s.k=1
  ·have d1:decide (s.k=1)=true:=decide_eq_true k1
   have hp:=eF hqo
   have hD:=fI q.day (by omega) (by simp only [dX]; omega)
   rw [if_pos k1]
   repeat' (first|(simp only [d1,x8,hf0,aXY,aX0,↓eV,cK,↓wA,↓wC,wB,aZ,a6,reduceIte,eR])|(refine cO rfl ?_)|(refine dJ ?_)|(with_reducible refine aD ?_ ?_)|(refine cJ (hD) rfl rfl ?_)|(refine cL (hD) rfl rfl ?_)|((first|apply cH|apply cI|apply cG)<;>intro h<;>try simp only [h]))
   all_goals exact eX _ rfl rfl
  have d1:decide (s.k=1)=false:=decide_eq_false k1
  rw [if_neg k1]
  by_cases k4:s.k=4
  ·have d4:decide (s.k=4)=true:=decide_eq_true k4
   have hH:=xP x.o s.v hv
   have hL:=o6 _ (c6 s.v 1 9) (aA9 s.v hv)
   rw [if_pos k4,aBa s.v hv]
   repeat' (first|(simp only [d1,d4,hf0,hf3,nT,aXY,aX0,dE,↓eV,↓dL,cK,↓wA,↓wC,wB,aZ,a6,reduceIte,eR])|(refine cO rfl ?_)|(refine dJ ?_)|(with_reducible refine aD ?_ ?_)|(refine cJ hH (by simp [dA,dK]) rfl ?_)|(refine cJ hL (by simp [dA,dK]) rfl ?_)|((first|apply cH|apply cI|apply cG)<;>intro h<;>try simp only [h]))
   all_goals (refine eX _ rfl ?_; cases c6 s.v 1 9<;>rfl)
  have d4:decide (s.k=4)=false:=decide_eq_false k4
  rw [if_neg k4]
  by_cases k6:s.k=6
  ·have d6:decide (s.k=6)=true:=decide_eq_true k6
   have hL:=o6 _ true (aNs hqo)
   rw [if_pos k6]
   repeat' (first|(simp only [d1,d4,d6,aE3,aEx,aEp,hf0,aXY,aX0,cZ,cP,↓eV,cK,↓wA,↓wC,wB,aZ,a6,reduceIte,eR])|(refine cO rfl ?_)|(refine dJ ?_)|(with_reducible refine aD ?_ ?_)|(refine cJ hL rfl rfl ?_)|((first|apply cH|apply cI|apply cG)<;>intro h<;>try simp only [h]))
   all_goals exact eX _ rfl rfl
  have d6:decide (s.k=6)=false:=decide_eq_false k6
  rw [if_neg k6]
  have hC:=aCB q s.i (eU hqo)
  repeat' (first|(simp only [d1,d4,d6,hf0,hf1,aXY,aX0,↓eV,↓dL,cK,↓wA,↓wC,wB,aZ,a6,reduceIte,eR])|(refine cO rfl ?_)|(refine dJ ?_)|(with_reducible refine aD ?_ ?_)|(refine cJ hC (by simp [dA,dK]) rfl ?_)|((first|apply cH|apply cI|apply cG)<;>intro h<;>try simp only [h]))
  all_goals exact eX _ rfl rfl
theorem aKH (x:Con) (w:List UInt8) (n:Int) (hv:dN x.o=true):Fn prog 58 [x.s,.str w,.int .i64 n] (fun rs=>rs=mkC x (o7 x.o w n)):=by
 by_cases h0:w=mC
 ·have hI:=wI w 0 (by subst h0; rfl)
  have hM:=mK x ⟨1,0,0,n⟩ hv
  rw [show Stp.d ⟨1,0,0,n⟩=jD 1 0 0 n from rfl] at hM
  simp only [mkC,jD] at hM
  rw [(congrArg (o7 x.o · n) h0).trans (aR9 x.o n)]
  refine cW aAR [] ?_
  dsimp only [aAR,m58,rF,cS,cE,cR,c8]
  try simp only [wQ]
  repeat' (first|(simp only [hI,aXZ,aXY,aX0,↓eV,cK,↓wA,↓wC,wB,aZ,a6,reduceIte,reduceCtorEq,eR])|(refine cO rfl ?_)|(refine dJ ?_)|(with_reducible refine aD ?_ ?_)|(refine cJ hM (by simp [dA,dK]) rfl ?_)|((first|apply cH|apply cI|apply cG)<;>intro h<;>try simp only [h]))
  all_goals exact eX _ rfl rfl
 by_cases h3:w=fZ
 ·have hI:=wI w 3 (by subst h3; rfl)
  have hM:=mK x ⟨4,0,0,n⟩ hv
  rw [show Stp.d ⟨4,0,0,n⟩=jD 4 0 0 n from rfl] at hM
  simp only [mkC,jD] at hM
  rw [(congrArg (o7 x.o · n) h3).trans (aKq x.o n)]
  refine cW aAR [] ?_
  dsimp only [aAR,m58,rF,cS,cE,cR,c8]
  try simp only [wQ]
  repeat' (first|(simp only [hI,aXZ,aXY,aX0,↓eV,cK,↓wA,↓wC,wB,aZ,a6,reduceIte,reduceCtorEq,aA,eR])|(refine cO rfl ?_)|(refine dJ ?_)|(with_reducible refine aD ?_ ?_)|(refine cJ hM (by simp [dA,dK]) rfl ?_)|((first|apply cH|apply cI|apply cG)<;>intro h<;>try simp only [h]))
  all_goals exact eX _ rfl rfl
 by_cases h5:w=s7
 ·have hI:=wI w 5 (by subst h5; rfl)
  have hM:=mK x ⟨6,n,0,0⟩ hv
  rw [show Stp.d ⟨6,n,0,0⟩=jD 6 n 0 0 from rfl] at hM
  simp only [mkC,jD] at hM
  rw [(congrArg (o7 x.o · n) h5).trans (aUY x.o n)]
  refine cW aAR [] ?_
  dsimp only [aAR,m58,rF,cS,cE,cR,c8]
  try simp only [wQ]
  repeat' (first|(simp only [hI,aXZ,aXY,aX0,↓eV,cK,↓wA,↓wC,wB,aZ,a6,reduceIte,reduceCtorEq,aA,eR])|(refine cO rfl ?_)|(refine dJ ?_)|(with_reducible refine aD ?_ ?_)|(refine cJ hM (by simp [dA,dK]) rfl ?_)|((first|apply cH|apply cI|apply cG)<;>intro h<;>try simp only [h]))
  all_goals exact eX _ rfl rfl
 by_cases jT:w=nG
 ·have hI:=wI w 10 (by subst jT; rfl)
  have hH:=xP x.o n hv
  have hL:=o6 _ (c6 n 1 9) (aA9 n hv)
  rw [(congrArg (o7 x.o · n) jT).trans (aMT x.o n),aBa n hv]
  refine cW aAR [[1,0,0]] ?_
  dsimp only [aAR,m58,rF,cS,cE,cR,c8]
  try simp only [wQ]
  repeat' (first|(simp only [aXZ,aXY,cK,↓wA,↓wC,wB,cU,cT,aZ,a6,a7,reduceIte,reduceCtorEq,aA,a8,eR])|((first|apply cH|apply cI|apply cG)<;>intro h<;>try simp only [h]))
  refine dB (gJ 0 rfl) ?_
  simp only [cU,cT,aYa,↓wA,↓wC,wB,cU,cT,aZ,a6,a7,reduceIte,reduceCtorEq,aA,a8,eR]
  repeat' (first|(simp only [nT,hI,aXY,aX0,dE,↓eV,↓dL,cK,↓wA,↓wC,wB,aZ,a6,reduceIte,aA,eR])|(refine cO rfl ?_)|(refine dJ ?_)|(with_reducible refine aD ?_ ?_)|(refine cJ hH (by simp [dA,dK]) rfl ?_)|(refine cJ hL (by simp [dA,dK]) rfl ?_)|((first|apply cH|apply cI|apply cG)<;>intro h<;>try simp only [h]))
  all_goals (refine eX _ rfl ?_; cases c6 n 1 9<;>rfl)
 by_cases h11:w=nP
 ·have hI:=wI w 11 (by subst h11; rfl)
  have hC:=aCB x.o n (eU hv)
  rw [(congrArg (o7 x.o · n) h11).trans (aNm x.o n)]
  refine cW aAR [[1,0,0]] ?_
  dsimp only [aAR,m58,rF,cS,cE,cR,c8]
  try simp only [wQ]
  repeat' (first|(simp only [aXZ,aXY,cK,↓wA,↓wC,wB,cU,cT,aZ,a6,a7,reduceIte,reduceCtorEq,aA,a8,eR])|((first|apply cH|apply cI|apply cG)<;>intro h<;>try simp only [h]))
  refine dB (gJ 0 rfl) ?_
  simp only [cU,cT,aYa,↓wA,↓wC,wB,cU,cT,aZ,a6,a7,reduceIte,reduceCtorEq,aA,a8,eR]
  repeat' (first|(simp only [nT,hI,aXY,aX0,↓eV,↓dL,cK,↓wA,↓wC,wB,aZ,a6,reduceIte,aA,eR])|(refine cO rfl ?_)|(refine dJ ?_)|(with_reducible refine aD ?_ ?_)|(refine cJ hC (by simp [dA,dK]) rfl ?_)|((first|apply cH|apply cI|apply cG)<;>intro h<;>try simp only [h]))
  all_goals exact eX _ rfl rfl
 ·have e:o7 x.o w n=(x.o,qm):=by unfold o7; rw [if_neg h0,if_neg h3,if_neg h5,if_neg jT,if_neg h11]
  have hI:decide (w=mC)=false/\decide (w=fZ)=false/\decide (w=s7)=false/\decide (w=nG)=false/\decide (w=nP)=false:=⟨decide_eq_false h0,decide_eq_false h3,decide_eq_false h5,decide_eq_false jT,decide_eq_false h11⟩
  rw [e]
  refine cW aAR [] ?_
  dsimp only [aAR,m58,rF,cS,cE,cR,c8]
  try simp only [wQ]
  repeat' (first|(simp only [hI,aXZ,aXY,aX0,↓eV,cK,↓wA,↓wC,wB,aZ,a6,reduceIte,reduceCtorEq,eR])|(refine cO rfl ?_)|(refine dJ ?_)|(with_reducible refine aD ?_ ?_)|((first|apply cH|apply cI|apply cG)<;>intro h<;>try simp only [h]))
  all_goals exact eX _ rfl rfl
theorem aKU (x:Con) (w:List UInt8) (n v:Int) (hv:dN x.o=true):Fn prog 59 [x.s,.str w,.int .i64 n,.int .i64 v] (fun rs=>rs=mkC x (rB x.o w n v)):=by
 by_cases h2:w=m4
 ·have hI:=wI w 2 (by subst h2; rfl)
  have hM:=mK x ⟨3,n,0,v⟩ hv
  rw [show Stp.d ⟨3,n,0,v⟩=jD 3 n 0 v from rfl] at hM
  simp only [mkC,jD] at hM
  rw [(congrArg (rB x.o · n v) h2).trans (aSo x.o n v)]
  refine cW aJ2 [] ?_
  dsimp only [aJ2,m59,rF,cS,cE,cR,c8]
  try simp only [wQ]
  repeat' (first|(simp only [hI,aXZ,aXY,aX0,↓eV,cK,↓wA,↓wC,wB,aZ,a6,reduceIte,reduceCtorEq,eR])|(refine cO rfl ?_)|(refine dJ ?_)|(with_reducible refine aD ?_ ?_)|(refine cJ hM (by simp [dA,dK]) rfl ?_)|((first|apply cH|apply cI|apply cG)<;>intro h<;>try simp only [h]))
  all_goals exact eX _ rfl rfl
 by_cases h4:w=j4
 ·have hI:=wI w 4 (by subst h4; rfl)
  have hM:=mK x ⟨5,n,0,v⟩ hv
  rw [show Stp.d ⟨5,n,0,v⟩=jD 5 n 0 v from rfl] at hM
  simp only [mkC,jD] at hM
  rw [(congrArg (rB x.o · n v) h4).trans (aNW x.o n v)]
  refine cW aJ2 [] ?_
  dsimp only [aJ2,m59,rF,cS,cE,cR,c8]
  try simp only [wQ]
  repeat' (first|(simp only [hI,aXZ,aXY,aX0,↓eV,cK,↓wA,↓wC,wB,aZ,a6,reduceIte,reduceCtorEq,aA,eR])|(refine cO rfl ?_)|(refine dJ ?_)|(with_reducible refine aD ?_ ?_)|(refine cJ hM (by simp [dA,dK]) rfl ?_)|((first|apply cH|apply cI|apply cG)<;>intro h<;>try simp only [h]))
  all_goals exact eX _ rfl rfl
 ·have e:rB x.o w n v=(x.o,qm):=by unfold rB; rw [if_neg h2,if_neg h4]
  have hI:decide (w=m4)=false/\decide (w=j4)=false:=⟨decide_eq_false h2,decide_eq_false h4⟩
  rw [e]
  refine cW aJ2 [] ?_
  dsimp only [aJ2,m59,rF,cS,cE,cR,c8]
  try simp only [wQ]
  repeat' (first|(simp only [hI,aXZ,aXY,aX0,↓eV,cK,↓wA,↓wC,wB,aZ,a6,reduceIte,reduceCtorEq,eR])|(refine cO rfl ?_)|(refine dJ ?_)|(with_reducible refine aD ?_ ?_)|((first|apply cH|apply cI|apply cG)<;>intro h<;>try simp only [h]))
  all_goals exact eX _ rfl rfl
theorem aKm (x:Con) (l w:List UInt8) (ws:List (List UInt8)) (hv:dN x.o=true) (hl:l.length<=1000) (hp:parts 32 l=w :: ws):Fn prog 31 [x.s,.str l] (fun rs=>rs=mkC x (nS x.o w ws)):=by
 have hS:=sP l 32 (by omega)
 rw [hp] at hS
 have hS:Fn prog 44 [.str l,.int .u8 32] (fun rs=>rs=[.sl true 1 (dl D.str (w :: ws))]):=hS
 have hws:∀ s∈w :: ws,s.length<=1000:=fun s hs=>by
  rw [<- hp] at hs
  have:=aF7 32 l s hs
  omega
 have hwl:ws.length<=1000:=by
  have h1:=aDE 32 l
  rw [hp,aC] at h1
  omega
 have hw0:(w :: ws)[0]?=some w:=rfl
 refine cW aTU [[1,1,1,1,0,0],[1,1,1,0,0]] ?_
 dsimp only [aTU,m31,rF,cS,cE,cR,c8]
 try simp only [wQ]
 repeat' (first|(simp only [aXZ,aXY,cK,aKG,↓wA,↓wC,wB,cU,cT,aZ,a6,a7,reduceIte,reduceCtorEq,aA,a8,eR])|(refine cO rfl ?_)|(refine cJ hS rfl rfl ?_)|((first|apply cH|apply cI|apply cG)<;>intro h<;>try simp only [h]))
 refine dB (s':=⟨[(1,.d (.str l)),(2,.d (.ptr x.s)),(4,.ptr 1 0 []),(6,.d (.sl false 1 (dl D.str (w :: ws)))),(7,.own 3)],[.dead,.box aQi,.dead,.val (.sl true 1 (dl iD []))]⟩) ((aBm 0 rfl (aYa x)).trans ((aHE 2 rfl).trans (cV _ rfl ⟨⟨rfl,rfl⟩,⟨rfl,rfl⟩,⟨rfl,rfl⟩,⟨by simp only [v6,tC,D.unown,u5,↓wA,↓wC,wB,cU,cT,aZ,a6,a7,reduceIte,reduceCtorEq,aA,a8,eR],rfl⟩,⟨rfl,rfl⟩,trivial⟩))) ?_
 repeat' (first|(simp only [cK,↓wA,↓wC,wB,cU,cT,aZ,a6,a7,reduceIte,reduceCtorEq,aA,a8,eR])|((first|apply cH|apply cI|apply cG)<;>intro h<;>try simp only [h]))
 refine eK (fun j:Nat=>⟨[(1,.d (.str l)),(2,.d (.ptr x.s)),(4,.ptr 1 0 []),(6,.d (.sl false 1 (dl D.str (w :: ws)))),(7,.own 3),(8,.d (.int .i64 ((j:Int) + 1)))],[.dead,.box aQi,.dead,.val (.sl true 1 (dl iD (pE ws j)))]⟩) (fun j=>j<=ws.length/\n9 (ws.take j)=some (pE ws j)) (fun j=>ws.length - j) 0 (cV _ rfl ⟨⟨rfl,rfl⟩,⟨rfl,rfl⟩,⟨rfl,rfl⟩,⟨rfl,rfl⟩,⟨rfl,rfl⟩,⟨rfl,rfl⟩,trivial⟩) ⟨aM _,rfl⟩ ?_
 rintro j ⟨hj,hin⟩
 by_cases hlt:j < ws.length
 ·have hd:decide ((j:Int) + 1 < ((ws.length + 1:Nat):Int))=true:=decide_eq_true (by omega)
  obtain ⟨s,hr⟩:=dW hlt
  have hr':(w :: ws)[j + 1]?=some s:=hr
  have hjn:((j:Int) + 1).toNat=j + 1:=by omega
  have hP:=aAI s (by have:=hws s (aO _ (aH hr)); omega)
  have hlen:=tN hin
  rw [aQ,aV (by omega)] at hlen
  unfold rdR at hP
  cases hn:jN s with
  | none =>
   rw [hn] at hP
   have hg:nS x.o w ws=(x.o,qm):=by unfold nS; rw [y4 hn ws (aH hr)]
   rw [hg]
   repeat' (first|(simp only [hd,hr',hjn,aB,cK,cP,dC,aC,aXY,aX0,↓eV,↓wA,↓wC,wB,aZ,a6,reduceIte,eR])|(refine cJ (hP) rfl rfl ?_)|(refine cL (hP) rfl rfl ?_)|(with_reducible refine cO ?_ ?_; focus omega)|(refine cO rfl ?_)|((first|apply cH|apply cI|apply cG)<;>intro h<;>try simp only [h]))
   all_goals exact eX _ rfl rfl
  | some n =>
   rw [hn] at hP
   have hu:n9 (ws.take (j + 1))=some (pE ws j ++ [n]):=by rw [fG hr,aAc,hin,hn]; rfl
   have hu2:pE ws (j + 1)=pE ws j ++ [n]:=by unfold pE at hu ⊢; rw [hu]; rfl
   repeat' (first|(simp only [hd,hr',hjn,aB,cK,cP,dC,aC,↓wA,↓wC,wB,cU,cT,aZ,a6,a7,reduceIte,reduceCtorEq,aA,a8,eR])|(refine cJ (hP) rfl rfl ?_)|(refine cL (hP) rfl rfl ?_)|(refine cO (fun e=>by cases e) ?_)|(with_reducible refine cO ?_ ?_; focus omega)|(with_reducible refine cM ?_ ?_; focus (simp only [dX]; omega))|((first|apply cH|apply cI|apply cG)<;>intro h<;>try simp only [h]))
   refine ⟨j + 1,?_,⟨by omega,by rw [hu2]; exact hu⟩,by omega⟩
   rw [hu2,<-hZ (f:=iD)]
   exact (cV _ rfl ⟨⟨rfl,rfl⟩,⟨rfl,rfl⟩,⟨rfl,rfl⟩,⟨rfl,rfl⟩,⟨rfl,rfl⟩,⟨rfl,rfl⟩,trivial⟩)
 ·have hd:decide ((j:Int) + 1 < ((ws.length + 1:Nat):Int))=false:=decide_eq_false (by omega)
  have hjl:j=ws.length:=by omega
  subst hjl
  rw [aR] at hin
  have hbd:=aEN hin
  have hlen:=tN hin
  generalize pE ws ws.length=n at hin hbd hlen
  repeat' (first|(simp only [hd,cK,cP,aC,↓wA,↓wC,wB,cU,cT,aZ,a6,a7,reduceIte,reduceCtorEq,aA,a8,eR])|((first|apply cH|apply cI|apply cG)<;>intro h<;>try simp only [h]))
  refine dB (s':=⟨[(1,.d (.str l)),(2,.d (.ptr x.s)),(4,.ptr 1 0 []),(6,.d (.sl false 1 (dl D.str (w :: ws)))),(7,.d (.sl false 1 (dl iD n)))],[.dead,.box aQi,.dead,.dead]⟩) ((aHE 3 rfl).trans (cV _ rfl ⟨⟨rfl,rfl⟩,⟨rfl,rfl⟩,⟨rfl,rfl⟩,⟨rfl,rfl⟩,⟨by simp only [v6,tC,D.unown,dS,↓wA,↓wC,wB,cU,cT,aZ,a6,a7,reduceIte,reduceCtorEq,aA,a8,eR],rfl⟩,trivial⟩)) ?_
  have hcase:n=[]\/(∃ a,n=[a])\/(∃ a b,n=[a,b])\/(∃ a b c,n=[a,b,c])\/4<=n.length:=by
   match n with
   | []=>exact .inl rfl
   | [a]=>exact .inr (.inl ⟨a,rfl⟩)
   | [a,b]=>exact .inr (.inr (.inl ⟨a,b,rfl⟩))
   | [a,b,c]=>exact .inr (.inr (.inr (.inl ⟨a,b,c,rfl⟩)))
   | a :: b :: c :: d :: r=>exact .inr (.inr (.inr (.inr (by simp))))
  rcases hcase with hk|⟨a,hk⟩|⟨a,b,hk⟩|⟨a,b,c,hk⟩|hk
  ·have e:ws=[]:=List.length_eq_zero_iff.1 (by rw [<- hlen,hk]; rfl)
   have ew:w=l:=aKx (by rw [hp,e])
   have hM:=aHk x.o l hv
   have hg:nS x.o w ws=(x.o,kQ x.o l):=by unfold nS; rw [hin,hk,ew]
   have hI:decide ((n.length:Int)=0)=true:=by rw [hk]; rfl
   rw [hg]
   repeat' (first|(simp only [cK,nT,aXY,aX0,cP,hI,↓eV,↓dL,↓wA,↓wC,wB,aZ,a6,reduceIte,eR])|(with_reducible refine cO ?_ ?_; focus omega)|(refine cO rfl ?_)|(refine dJ ?_)|(with_reducible refine aD ?_ ?_)|(refine cJ hM (by simp [dA,dK]) rfl ?_)|((first|apply cH|apply cI|apply cG)<;>intro h<;>try simp only [h]))
   all_goals exact eX _ rfl rfl
  ·have hM:=aKH x w a hv
   simp only [mkC] at hM
   have hg:nS x.o w ws=o7 x.o w a:=by unfold nS; rw [hin,hk]
   have hI:decide ((n.length:Int)=0)=false/\decide ((n.length:Int)=1)=true/\n[0]?=some a:=by rw [hk]; exact ⟨rfl,rfl,rfl⟩
   have hlN:n.length=1:=by rw [hk]; rfl
   rw [hg]
   repeat' (first|(simp only [cK,aXZ,aXY,aX0,cP,dC,aF,aB,iD,hw0,hI,↓eV,↓wA,↓wC,wB,aZ,a6,reduceIte,eR])|(with_reducible refine cO ?_ ?_; focus omega)|(refine cO rfl ?_)|(refine dJ ?_)|(with_reducible refine aD ?_ ?_)|(refine cJ hM (by simp [dA,dK]) rfl ?_)|((first|apply cH|apply cI|apply cG)<;>intro h<;>try simp only [h]))
   all_goals exact eX _ rfl rfl
  ·have hM:=aKU x w a b hv
   simp only [mkC] at hM
   have hg:nS x.o w ws=rB x.o w a b:=by unfold nS; rw [hin,hk]
   have hI:decide ((n.length:Int)=0)=false/\decide ((n.length:Int)=1)=false/\decide ((n.length:Int)=2)=true/\n[0]?=some a/\n[1]?=some b:=by rw [hk]; exact ⟨rfl,rfl,rfl,rfl,rfl⟩
   have hlN:n.length=2:=by rw [hk]; rfl
   rw [hg]
   repeat' (first|(simp only [cK,aXZ,aXY,aX0,cP,dC,aF,aG,aB,iD,hw0,hI,↓eV,↓wA,↓wC,wB,aZ,a6,reduceIte,eR])|(with_reducible refine cO ?_ ?_; focus omega)|(refine cO rfl ?_)|(refine dJ ?_)|(with_reducible refine aD ?_ ?_)|(refine cJ hM (by simp [dA,dK]) rfl ?_)|((first|apply cH|apply cI|apply cG)<;>intro h<;>try simp only [h]))
   all_goals exact eX _ rfl rfl
  ·have hM:=mK x ⟨2,a,b,c⟩ hv
   rw [show Stp.d ⟨2,a,b,c⟩=jD 2 a b c from rfl] at hM
   simp only [mkC,jD] at hM
   have hlN:n.length=3:=by rw [hk]; rfl
   by_cases hw:w=jJ
   ·have hg:nS x.o w ws=nN x.o ⟨2,a,b,c⟩:=by unfold nS; rw [hin,hk]; exact if_pos hw
    have hI:decide ((n.length:Int)=0)=false/\decide ((n.length:Int)=1)=false/\decide ((n.length:Int)=2)=false/\decide ((n.length:Int)=3)=true/\n[0]?=some a/\n[1]?=some b/\n[2]?=some c/\decide (w=jJ)=true:=by rw [hk]; exact ⟨rfl,rfl,rfl,rfl,rfl,rfl,rfl,decide_eq_true hw⟩
    rw [hg]
    repeat' (first|(simp only [cK,aXZ,aXY,aX0,cP,dC,aF,aG,aB,iD,hw0,hI,↓eV,↓wA,↓wC,wB,aZ,a6,reduceIte,eR])|(with_reducible refine cO ?_ ?_; focus omega)|(refine cO rfl ?_)|(refine dJ ?_)|(with_reducible refine aD ?_ ?_)|(refine cJ hM (by simp [dA,dK]) rfl ?_)|((first|apply cH|apply cI|apply cG)<;>intro h<;>try simp only [h]))
    all_goals exact eX _ rfl rfl
   ·have hg:nS x.o w ws=(x.o,qm):=by unfold nS; rw [hin,hk]; exact if_neg hw
    have hI:decide ((n.length:Int)=0)=false/\decide ((n.length:Int)=1)=false/\decide ((n.length:Int)=2)=false/\decide ((n.length:Int)=3)=true/\decide (w=jJ)=false:=by rw [hk]; exact ⟨rfl,rfl,rfl,rfl,decide_eq_false hw⟩
    rw [hg]
    repeat' (first|(simp only [cK,aXY,aX0,cP,dC,aF,aB,hw0,hI,↓eV,↓wA,↓wC,wB,aZ,reduceIte,eR])|(with_reducible refine cO ?_ ?_; focus omega)|(refine cO rfl ?_)|(refine dJ ?_)|(with_reducible refine aD ?_ ?_)|((first|apply cH|apply cI|apply cG)<;>intro h<;>try simp only [h]))
    all_goals exact eX _ rfl rfl
  ·have hI:decide ((n.length:Int)=0)=false/\decide ((n.length:Int)=1)=false/\decide ((n.length:Int)=2)=false/\decide ((n.length:Int)=3)=false:=⟨decide_eq_false (by omega),decide_eq_false (by omega),decide_eq_false (by omega),decide_eq_false (by omega)⟩
   have hg:nS x.o w ws=(x.o,qm):=by
    unfold nS; rw [hin]
    match n,hk with
    | a :: b :: c :: d :: r,_=>rfl
   rw [hg]
   repeat' (first|(simp only [cK,aXY,aX0,cP,hI,↓eV,↓wA,↓wC,wB,aZ,reduceIte,eR])|(with_reducible refine cO ?_ ?_; focus omega)|(refine cO rfl ?_)|(refine dJ ?_)|(with_reducible refine aD ?_ ?_)|((first|apply cH|apply cI|apply cG)<;>intro h<;>try simp only [h]))
   all_goals exact eX _ rfl rfl
theorem aMC {o q:Off} {r w:List UInt8} {ws:List (List UInt8)} (ho:dN o=true) (h:aAK o w ws=some (q,r)):dN q=true:=by
 unfold aAK at h
 split at h
 ·cases h
 ·split at h
  ·split at h
   ·split at h
    ·rename_i hq
     obtain ⟨_,_,h⟩:=aN.1 h
     injection h with h _
     subst h
     exact xO hq
    ·cases h
   ·obtain ⟨_,_,h⟩:=aN.1 h
    injection h with h _
    subst h
    exact ho
  ·cases h
theorem aSQ {o:Off} {w:List UInt8} {ws:List (List UInt8)} (ho:dN o=true):dN (nS o w ws).1=true:=by
 rw [aIQ o w ws ho]
 cases h:aAK o w ws with
 | none=>exact ho
 | some y=>exact aMC ho h
theorem aPv (x:Con) (l w:List UInt8) (ws:List (List UInt8)) (ho:dN x.o=true):exA x l (aAK x.o w ws)=(⟨(nS x.o w ws).1,(aBt x.d x.p x.c l (aAJ (nS x.o w ws).2)).1,(aBt x.d x.p x.c l (aAJ (nS x.o w ws).2)).2.1,(aBt x.d x.p x.c l (aAJ (nS x.o w ws).2)).2.2⟩,aAJ (nS x.o w ws).2):=by
 rw [aIQ x.o w ws ho]
 unfold exA
 cases aAK x.o w ws<;>rfl
theorem aFS (x:Con) (l:List UInt8) (h:x.ok0) (hl:l.length<=1048576):Fn prog 11 [x.s,.str l] (fun rs=>rs=[(yD x l).1.s,.str (yD x l).2]):=by
 have hV:=aH3 x h
 have hO:=aDk x h
 have hml:l.length<=maxLen:=by rw [d5]; omega
 have hR:=vY l [] hml (by rw [d5]; decide)
 simp only [lZ] at hR
 cases hv:pH x with
 | false =>
  rw [hv] at hV
  rw [aLT hv]
  refine cW aDb [] ?_
  dsimp only [aDb,m11,rF,cS,cE,cR,c8]
  try simp only [wQ]
  repeat' (first|(simp only [aXZ,aXY,aX0,↓eV,cK,↓wA,↓wC,wB,aZ,a6,reduceIte,reduceCtorEq,eR])|(refine cO rfl ?_)|(refine cJ hV rfl rfl ?_)|(refine cJ hO rfl rfl ?_)|((first|apply cH|apply cI|apply cG)<;>intro h<;>try simp only [h]))
  all_goals exact eX _ rfl rfl
 | true =>
  rw [hv] at hV
  cases hr:fV l [] with
  | false =>
   rw [hr] at hR
   rw [aJm hv hr]
   refine cW aDb [] ?_
   dsimp only [aDb,m11,rF,cS,cE,cR,c8]
   try simp only [wQ]
   repeat' (first|(simp only [aXZ,aXY,aX0,↓eV,cK,↓wA,↓wC,wB,aZ,a6,reduceIte,reduceCtorEq,eR])|(refine cO rfl ?_)|(refine cJ hV rfl rfl ?_)|(refine cJ hO rfl rfl ?_)|(refine cJ hR rfl rfl ?_)|((first|apply cH|apply cI|apply cG)<;>intro h<;>try simp only [h]))
   all_goals exact eX _ rfl rfl
  | true =>
   rw [hr] at hR
   by_cases hc:x.c=60
   ·have hd:decide (x.c=60)=true:=decide_eq_true hc
    rw [aFG hv hr hc]
    refine cW aDb [] ?_
    dsimp only [aDb,m11,rF,cS,cE,cR,c8]
    try simp only [wQ]
    repeat' (first|(simp only [hd,tX,tM,aXZ,aXY,aX0,↓eV,cK,↓wA,↓wC,wB,aZ,a6,reduceIte,reduceCtorEq,eR])|(refine cO rfl ?_)|(refine cJ hV rfl rfl ?_)|(refine cJ hO rfl rfl ?_)|(refine cJ hR rfl rfl ?_)|((first|apply cH|apply cI|apply cG)<;>intro h<;>try simp only [h]))
    all_goals exact eX _ rfl rfl
   ·have hd:decide (x.c=60)=false:=decide_eq_false hc
    obtain ⟨w,ws,hp⟩:=aFv 32 l
    have hoff:dN x.o=true:=by
     simp only [pH,aL] at hv
     exact hv.1
    have hln:l.length<=1000:=by have:=kE hr; omega
    rw [aLx hv hr hc hp,aPv x l w ws hoff]
    have hM:=aKm x l w ws hoff hln hp
    simp only [mkC] at hM
    have hq:=aSQ (w:=w) (ws:=ws) hoff
    generalize nS x.o w ws=y at hM hq
    obtain ⟨q,r⟩:=y
    have hO2:=aDk ⟨q,x.d,x.p,x.c⟩ ⟨eU hq,h.2⟩
    by_cases hlong:200 < (r.length:Int)
    ·have hdl:decide (200 < (r.length:Int))=true:=decide_eq_true hlong
     rw [show aAJ r=[108,111,110,103] from if_pos hlong]
     have hds:∀ a b c,j7 [1] (Con.mk q x.d x.p x.c).s (eQ a b c)=(Con.mk q a b c).s:=fun _ _ _=>rfl
     have hs1:gG [1] (Con.mk q x.d x.p x.c).s=some (eQ x.d x.p x.c):=rfl
     have hs2:fB [1] (Con.mk q x.d x.p x.c).s=5:=rfl
     obtain ⟨nn,hap⟩:=sD x.d x.p x.c l [108,111,110,103]
     have hAp:=vO x.d x.p x.c l [108,111,110,103] h.2 hml (by rw [d5]; first|decide|omega)
     rw [hap] at hAp
     simp only [lZ] at hAp
     refine cW aDb [] ?_
     dsimp only [aDb,m11,rF,cS,cE,cR,c8]
     try simp only [wQ]
     repeat' (first|(simp only [hd,hdl,hds,hs1,hs2,tX,tM,aA7,aA8,aXZ,aXY,aX0,↓eV,fD,gK,kF,↓jK,cK,↓wA,↓wC,wB,aZ,a6,reduceIte,reduceCtorEq,eR])|(refine cO rfl ?_)|(refine cJ hV rfl rfl ?_)|(refine cJ hO rfl rfl ?_)|(refine cJ hR rfl rfl ?_)|(refine cJ hM rfl rfl ?_)|(refine cJ hO2 rfl rfl ?_)|(refine cJ hAp rfl rfl ?_)|((first|apply cH|apply cI|apply cG)<;>intro h<;>try simp only [h]))
     all_goals exact eX _ rfl rfl
    ·have hdl:decide (200 < (r.length:Int))=false:=decide_eq_false hlong
     rw [show aAJ r=r from if_neg hlong]
     have hds:∀ a b c,j7 [1] (Con.mk q x.d x.p x.c).s (eQ a b c)=(Con.mk q a b c).s:=fun _ _ _=>rfl
     have hs1:gG [1] (Con.mk q x.d x.p x.c).s=some (eQ x.d x.p x.c):=rfl
     have hs2:fB [1] (Con.mk q x.d x.p x.c).s=5:=rfl
     obtain ⟨nn,hap⟩:=sD x.d x.p x.c l r
     have hAp:=vO x.d x.p x.c l r h.2 hml (by rw [d5]; first|decide|omega)
     rw [hap] at hAp
     simp only [lZ] at hAp
     refine cW aDb [] ?_
     dsimp only [aDb,m11,rF,cS,cE,cR,c8]
     try simp only [wQ]
     repeat' (first|(simp only [hd,hdl,hds,hs1,hs2,tX,tM,aA7,aA8,aXZ,aXY,aX0,↓eV,fD,gK,kF,↓jK,cK,↓wA,↓wC,wB,aZ,a6,reduceIte,reduceCtorEq,eR])|(refine cO rfl ?_)|(refine cJ hV rfl rfl ?_)|(refine cJ hO rfl rfl ?_)|(refine cJ hR rfl rfl ?_)|(refine cJ hM rfl rfl ?_)|(refine cJ hO2 rfl rfl ?_)|(refine cJ hAp rfl rfl ?_)|((first|apply cH|apply cI|apply cG)<;>intro h<;>try simp only [h]))
     all_goals exact eX _ rfl rfl
theorem aAp (L:List (List UInt8×List UInt8)):(dl jH L).unown=dl jH L:=rG (fun _=>rfl) L
theorem aMf {d p:List UInt8} {k:Int} (c r:List UInt8) (h:lv d p k=true):(aBt d p k c r).1.length + (aBt d p k c r).2.1.length<=1048576:=by
 have hs:=aG3 h
 have hc:=aBK h
 unfold aBt
 split
 ·rename_i hg
  split
  ·simp only; omega
  ·have:=nH (k:=k) (by simp only [dX]; omega) hg.2
   simp only [List.length_append,aC,aE]
   omega
 ·simp only; omega
theorem aOe {x:Con} {l:List UInt8} (h:x.ok0):(yD x l).1.ok0:=by
 unfold yD
 split
 ·rename_i hv
  split
  ·rename_i hr
   split
   ·exact h
   ·simp only [pH,aL] at hv
    refine ⟨?_,aMf l _ hv.2⟩
    unfold exA
    cases ha:aAK x.o ((parts 32 l).headD []) (parts 32 l).tail with
    | none=>exact h.1
    | some y=>exact eU (aMC hv.1 ha)
  ·exact h
 ·exact h
theorem aEK (x:Con) (l:List UInt8) (h:x.ok0) (hl:l.length<=1048576):Fn prog 13 [x.s,.str l] (fun rs=>rs=[(yD x l).1.s,.str (yD x l).2]):=by
 simpa [D.unown,aYl] using fH (aFj x l h hl)
def o9 (n:Int):Con:=⟨⟨if c6 n 0 20000=true then n else 0,[],0,0,[]⟩,[],[],0⟩
theorem aG8 (n:Int):(o9 n).ok0:=⟨⟨⟨aM _,fun x hx=>by cases hx⟩,aM _,fun s hs=>by cases hs⟩,aM _⟩
theorem aHl (n:Int):Fn prog 25 [.int .i64 n] (fun rs=>rs=[(o9 n).s,.bool (c6 n 0 20000)]):=by
 have h:=fH (aDa n)
 have e:(vS false n).map D.unown=[(o9 n).s,.bool (c6 n 0 20000)]:=by
  unfold vS o9
  cases c6 n 0 20000<;>rfl
 rw [e] at h
 exact h
theorem aB4 (n:Int):Fn prog 22 [.int .i64 n] (fun rs=>rs=[(o9 n).s,.bool (c6 n 0 20000)]):=by
 have h:=fH (yN n)
 have e:(vS true n).map D.unown=[(o9 n).s,.bool (c6 n 0 20000)]:=by
  unfold vS o9
  cases c6 n 0 20000<;>rfl
 rw [e] at h
 exact h
abbrev Rec:=List UInt8×List UInt8
def xZ (x:Con) (L:List Rec):Con:=L.foldl (fun x e=>(yD x e.1).1) x
theorem aBs:∀ (L:List Rec) {x:Con},x.ok0->(xZ x L).ok0
 | [],x,h=>h
 | e :: L,x,h=>aBs L (x:=(yD x e.1).1) (aOe h)
theorem aID {x:Con} {L:List Rec} {i:Nat} {e:Rec} (hr:L[i]?=some e):xZ x (L.take (i + 1))=(yD (xZ x (L.take i)) e.1).1:=by
 unfold xZ
 rw [fG hr,List.foldl_append]; rfl
def aC1:Con->List Rec->Nat
 | _,[]=>0
 | x,e :: L=>if (yD x e.1).2=e.2 then aC1 (yD x e.1).1 L + 1 else 0
theorem aJt {x:Con} {L:List Rec} {i:Nat} {e:Rec} (hr:L[i]?=some e):aC1 x (L.drop i)=if (yD x e.1).2=e.2 then aC1 (yD x e.1).1 (L.drop (i + 1)) + 1 else 0:=by
 have hi:=cQ hr
 rw [List.drop_eq_getElem_cons hi]
 rw [List.getElem?_eq_getElem hi] at hr
 injection hr with hr
 rw [hr]; rfl
theorem aPI (d p:List UInt8) (c:Int) (hl:d.length + p.length<=100000000):Fn prog 26 [eQ d p c] (fun rs=>rs=[.sl false 2 (dl jH (uG d p c)),.bool (lv d p c)]):=by
 simpa [D.unown,aAp] using fH (xE d p c hl)
theorem aGA (d p:List UInt8) (c:Int) (hl:d.length + p.length<=1048576):Fn prog 24 [eQ d p c] (fun rs=>rs=[.sl false 2 (dl jH (uG d p c)),.bool (lv d p c)]):=by
 simpa [D.unown,aAp] using fH (x5 d p c hl)
theorem aJn {d p:List UInt8} {c:Int} {e:Rec} (he:e∈uG d p c):e.1.length<=1000/\e.2.length<=1000:=by
 unfold uG at he
 split at he
 ·have:=kE (aF4 60 0 _ e he)
  omega
 ·cases he
theorem aTf (e:Rec):(jH e).noOwn=true:=rfl
theorem aFZ (e:Rec):(jH e).isV=true:=rfl
theorem aDr (e:Rec):(jH e).size=2:=rfl
theorem aIK {o:List Ob} {K:SV->Prop} {e:Rec}:eI o (some 2) (jH e) K=K (.d (jH e)):=by simp [jH,eI,D.size,D.noOwn]
theorem aIP {e:Rec} {K:SV->Prop}:dD 0 0 (.d (.ptr (jH e))) K=K (.d (.ptr (.str e.1))):=by simp [jH,dD,D.pre,D.nth]
theorem aJf {e:Rec} {K:SV->Prop}:dD 1 1 (.d (.ptr (jH e))) K=K (.d (.ptr (.str e.2))):=by simp [jH,dD,D.pre,D.nth,D.size]
def rpR (day:Int) (d p:List UInt8) (c:Int):List D:=if c6 day 0 20000=true/\lv d p c=true then [.int .i64 (aC1 (o9 day) (uG d p c):Nat),.bool true] else [.int .i64 0,.bool false]
theorem aC2 (day:Int) (d p:List UInt8) (c:Int) (hl:d.length + p.length<=1048576):Fn prog 9 [.int .i64 day,eQ d p c] (fun rs=>rs=rpR day d p c):=by
 have hN:=aHl day
 have hR:=aPI d p c (by omega)
 unfold rpR
 cases hw:c6 day 0 20000 with
 | false =>
  rw [hw] at hN
  rw [if_neg (fun e=>by cases e.1)]
  refine cW ef9 [] ?_
  dsimp only [ef9,m9,rF,cS,cE,cR,c8]
  try simp only [wQ]
  repeat' (first|(simp only [aXZ,aXY,aX0,gK,↓jK,rT,cK,↓wA,↓wC,wB,aZ,a6,reduceIte,reduceCtorEq])|(refine cJ (hN) rfl rfl ?_)|(refine cL (hN) rfl rfl ?_)|(refine cO rfl ?_)|(refine cJ hR rfl rfl ?_)|((first|apply cH|apply cI|apply cG)<;>intro h<;>try simp only [h]))
  all_goals trace_state
 | true =>
  rw [hw] at hN
  cases hv:lv d p c with
  | false =>
   rw [hv] at hR
   rw [if_neg (fun e=>by cases e.2)]
   refine cW ef9 [] ?_
   dsimp only [ef9,m9,rF,cS,cE,cR,c8]
   try simp only [wQ]
   repeat' (first|(simp only [aXZ,aXY,aX0,gK,↓jK,rT,cK,↓wA,↓wC,wB,aZ,a6,reduceIte,reduceCtorEq])|(refine cJ (hN) rfl rfl ?_)|(refine cL (hN) rfl rfl ?_)|(refine cO rfl ?_)|(refine cJ hR rfl rfl ?_)|((first|apply cH|apply cI|apply cG)<;>intro h<;>try simp only [h]))
   all_goals trace_state
  | true =>
   rw [hv] at hR
   rw [if_pos ⟨rfl,rfl⟩]
   have hlen:∀ e∈uG d p c,e.1.length<=1000/\e.2.length<=1000:=fun e he=>aJn he
   have hLl:(uG d p c).length<=1000:=by
    have:=(qK 60 0 (d ++ p)).2
    unfold uG y3
    rw [hv,if_pos rfl]
    omega
   generalize uG d p c=L at hR hlen hLl
   refine cW ef9 [] ?_
   dsimp only [ef9,m9,rF,cS,cE,cR,c8]
   try simp only [wQ]
   repeat' (first|(simp only [aXZ,aXY,aX0,gK,↓jK,rT,cP,cK,↓wA,↓wC,wB,aZ,a6,reduceIte,reduceCtorEq])|(refine cJ (hN) rfl rfl ?_)|(refine cL (hN) rfl rfl ?_)|(refine cO rfl ?_)|(refine cJ hR rfl rfl ?_)|((first|apply cH|apply cI|apply cG)<;>intro h<;>try simp only [h]))
   refine dV L.length (fun i:Nat=>⟨[(6,.ptr 1 0 []),(8,.d (.sl false 2 (dl jH L))),(30,.d (.sl false 2 (dl jH L))),(31,.d (.int .i64 L.length)),(32,.d (.int .i64 i))],[.box (eQ d p c),.box (xZ (o9 day) (L.take i)).s]⟩) (fun i=>aC1 (o9 day) L=i + aC1 (xZ (o9 day) (L.take i)) (L.drop i)) (cV _ rfl ⟨⟨rfl,rfl⟩,⟨rfl,rfl⟩,⟨rfl,rfl⟩,⟨rfl,rfl⟩,⟨rfl,rfl⟩,trivial⟩) (by simp [xZ]) ?_ ?_
   ·intro i hlt hin hd h0
    obtain ⟨e,hr⟩:=dW hlt
    have hx0:=aBs (L.take i) (aG8 day)
    have he:=hlen e (aH hr)
    have hX:=aEK _ e.1 hx0 (by omega)
    have hat:=aJt (x:=xZ (o9 day) (L.take i)) hr
    have hnx:=aID (x:=o9 day) hr
    rw [hat] at hin
    generalize xZ (o9 day) (L.take i)=x at hX hin hnx
    by_cases hq:(yD x e.1).2=e.2
    ·have hst:decide ((yD x e.1).2=e.2)=true:=decide_eq_true hq
     rw [if_pos hq] at hin
     repeat' (first|(simp only [hd,h0,hr,hst,aJ,aB,dC,aXZ,aXY,aX0,↓eV,↓aIK,aFZ,aDr,aIV,aIH,aIR,aIS,cK,↓wA,↓wC,wB,aZ,a6,reduceIte])|(refine cO rfl ?_)|(refine dJ ?_)|(with_reducible refine aD ?_ ?_)|(refine cJ hX rfl rfl ?_)|(with_reducible refine cO ?_ ?_; focus omega)|(with_reducible refine cM ?_ ?_; focus (simp only [dX]; omega))|((first|apply cH|apply cI|apply cG)<;>intro h<;>try simp only [h]))
     all_goals
      refine ⟨i + 1,?_,⟨by omega,by rw [hnx]; omega⟩,by omega⟩
      rw [hnx]
      exact (cV _ rfl ⟨⟨rfl,rfl⟩,⟨rfl,rfl⟩,⟨rfl,rfl⟩,⟨rfl,rfl⟩,⟨rfl,rfl⟩,trivial⟩)
    ·have hst:decide ((yD x e.1).2=e.2)=false:=decide_eq_false hq
     rw [if_neg hq] at hin
     repeat' (first|(simp only [hd,h0,hr,hst,aJ,aB,dC,aXZ,aXY,aX0,↓eV,↓aIK,aFZ,aDr,aIV,aIH,aIR,aIS,cK,↓wA,↓wC,wB,aZ,a6,reduceIte])|(refine cO rfl ?_)|(refine dJ ?_)|(with_reducible refine aD ?_ ?_)|(refine cJ hX rfl rfl ?_)|(with_reducible refine cO ?_ ?_; focus omega)|(with_reducible refine cM ?_ ?_; focus (simp only [dX]; omega))|((first|apply cH|apply cI|apply cG)<;>intro h<;>try simp only [h]))
     all_goals rw [hin,aY]
   ·intro hin hd
    rw [aT] at hin
    have hin:aC1 (o9 day) L=L.length:=by rw [hin]; rfl
    rw [hin]
    repeat' (first|(simp only [hd,cP,↓wA,↓wC,wB,aZ,reduceIte])|((first|apply cH|apply cI|apply cG)<;>intro h<;>try simp only [h]))
theorem aDc (day:Int) (d p:List UInt8) (c:Int) (hl:d.length + p.length<=1048576):Fn prog 7 [.int .i64 day,eQ d p c] (fun rs=>rs=rpR day d p c):=by
 have hN:=aB4 day
 have hR:=aGA d p c (by omega)
 have hG:=u9 d p c (by omega)
 unfold rpR
 cases hw:c6 day 0 20000 with
 | false =>
  rw [hw] at hN
  rw [if_neg (fun e=>by cases e.1)]
  refine cW ef7 [] ?_
  dsimp only [ef7,m7,rF,cS,cE,cR,c8]
  try simp only [wQ]
  repeat' (first|(simp only [aXZ,aXY,aX0,gK,cK,↓wA,↓wC,wB,aZ,a6,reduceIte,reduceCtorEq])|(refine cJ (hN) rfl rfl ?_)|(refine cL (hN) rfl rfl ?_)|(refine cO rfl ?_)|(refine cJ hR rfl rfl ?_)|(refine cJ hG rfl rfl ?_)|((first|apply cH|apply cI|apply cG)<;>intro h<;>try simp only [h]))
  all_goals trace_state
 | true =>
  rw [hw] at hN
  cases hv:lv d p c with
  | false =>
   rw [hv] at hR hG
   rw [if_neg (fun e=>by cases e.2)]
   refine cW ef7 [] ?_
   dsimp only [ef7,m7,rF,cS,cE,cR,c8]
   try simp only [wQ]
   repeat' (first|(simp only [aXZ,aXY,aX0,gK,↓jK,cK,↓wA,↓wC,wB,aZ,a6,reduceIte,reduceCtorEq])|(refine cJ (hN) rfl rfl ?_)|(refine cL (hN) rfl rfl ?_)|(refine cO rfl ?_)|(refine cJ hR rfl rfl ?_)|(refine cJ hG rfl rfl ?_)|((first|apply cH|apply cI|apply cG)<;>intro h<;>try simp only [h]))
   all_goals trace_state
  | true =>
   rw [hv] at hR hG
   rw [if_pos ⟨rfl,rfl⟩]
   have hlen:∀ e∈uG d p c,e.1.length<=1000/\e.2.length<=1000:=fun e he=>aJn he
   have hLl:(uG d p c).length<=1000:=by
    have:=(qK 60 0 (d ++ p)).2
    unfold uG y3
    rw [hv,if_pos rfl]
    omega
   generalize uG d p c=L at hR hlen hLl
   refine cW ef7 [] ?_
   dsimp only [ef7,m7,rF,cS,cE,cR,c8]
   try simp only [wQ]
   repeat' (first|(simp only [aXZ,aXY,aX0,gK,↓jK,rT,cK,↓wA,↓wC,wB,aZ,a6,reduceIte,reduceCtorEq])|(refine cJ (hN) rfl rfl ?_)|(refine cL (hN) rfl rfl ?_)|(refine cO rfl ?_)|(refine cJ hR rfl rfl ?_)|(refine cJ hG rfl rfl ?_)|((first|apply cH|apply cI|apply cG)<;>intro h<;>try simp only [h]))
   refine dV L.length (fun i:Nat=>⟨[(6,.ptr 1 0 []),(8,.d (.sl false 2 (dl jH L))),(11,.d (.int .i64 i))],[.box (eQ d p c),.box (xZ (o9 day) (L.take i)).s]⟩) (fun i=>aC1 (o9 day) L=i + aC1 (xZ (o9 day) (L.take i)) (L.drop i)) (cV _ rfl ⟨⟨rfl,rfl⟩,⟨rfl,rfl⟩,⟨rfl,rfl⟩,trivial⟩) (by simp [xZ]) ?_ ?_
   ·intro i hlt hin hd h0
    obtain ⟨e,hr⟩:=dW hlt
    have hx0:=aBs (L.take i) (aG8 day)
    have he:=hlen e (aH hr)
    have hX:=aFS _ e.1 hx0 (by omega)
    have hat:=aJt (x:=xZ (o9 day) (L.take i)) hr
    have hnx:=aID (x:=o9 day) hr
    rw [hat] at hin
    generalize xZ (o9 day) (L.take i)=x at hX hin hnx
    by_cases hq:(yD x e.1).2=e.2
    ·have hst:decide ((yD x e.1).2=e.2)=true:=decide_eq_true hq
     rw [if_pos hq] at hin
     repeat' (first|(simp only [hd,h0,hr,hst,aJ,aB,cP,dC,aXZ,aXY,aX0,↓eV,aIP,aJf,cK,↓wA,↓wC,wB,aZ,a6,reduceIte])|(refine cO rfl ?_)|(refine dJ ?_)|(with_reducible refine aD ?_ ?_)|(refine cJ hX rfl rfl ?_)|(with_reducible refine cO ?_ ?_; focus omega)|(with_reducible refine cM ?_ ?_; focus (simp only [dX]; omega))|((first|apply cH|apply cI|apply cG)<;>intro h<;>try simp only [h]))
     all_goals
      refine ⟨i + 1,?_,⟨by omega,by rw [hnx]; omega⟩,by omega⟩
      rw [hnx]
      exact (cV _ rfl ⟨⟨rfl,rfl⟩,⟨rfl,rfl⟩,⟨rfl,rfl⟩,trivial⟩)
    ·have hst:decide ((yD x e.1).2=e.2)=false:=decide_eq_false hq
     rw [if_neg hq] at hin
     repeat' (first|(simp only [hd,h0,hr,hst,aJ,aB,cP,dC,aXZ,aXY,aX0,↓eV,aIP,aJf,cK,↓wA,↓wC,wB,aZ,a6,reduceIte])|(refine cO rfl ?_)|(refine dJ ?_)|(with_reducible refine aD ?_ ?_)|(refine cJ hX rfl rfl ?_)|(with_reducible refine cO ?_ ?_; focus omega)|(with_reducible refine cM ?_ ?_; focus (simp only [dX]; omega))|((first|apply cH|apply cI|apply cG)<;>intro h<;>try simp only [h]))
     all_goals rw [hin,aY]
   ·intro hin hd
    rw [aT] at hin
    have hin:aC1 (o9 day) L=L.length:=by rw [hin]; rfl
    rw [hin]
    repeat' (first|(simp only [hd,cP,↓wA,↓wC,wB,aZ,reduceIte])|((first|apply cH|apply cI|apply cG)<;>intro h<;>try simp only [h]))
end Go.Pe.Tryz
