/- Logs read, as plain lists: cuts, parts, the records of a text; What a valid log is; the laws of RecoverLog, IsValidLog, SyncLog; The law of LogRecords: marks on records; A new office, and what the laws do with its parts, walked; The law of NewConsole, walked; The replay of a log: both roads, walked, and the law of ReplayLog; The law of CrashLog: what of a log survives; Logs in plain lists: what is appended, cut off, torn; Logs that a console built replay without a difference; What is recovered of a torn log replays too; What draws: once in n times; one of some numbers; What draws: an office and a step, an office alone, a day; What draws: a day and a log that a console built; The law FnReplay -/
import Derived.Test.YtjmobminbckhjabGreatDoorW7
import Derived.Test.YtjmobminbckhjabGreatDoorW1
import Derived.Test.YtjmobminbckhjabGreatDoorPeD
import Derived.Test.YtjmobminbckhjabGreatDoorMc1
import Derived.Test.YtjmobminbckhjabGreatDoorMc2
import Derived.Test.YtjmobminbckhjabGreatDoorMc3
import Derived.Test.YtjmobminbckhjabGreatDoorMc4
import Derived.Test.YtjmobminbckhjabGreatDoorMc5
import Derived.Test.YtjmobminbckhjabGreatDoorMc6
import Derived.Test.YtjmobminbckhjabGreatDoorMc7
import Derived.Test.YtjmobminbckhjabGreatDoorMc8
import Derived.Test.YtjmobminbckhjabGreatDoorW5
import Derived.Test.YtjmobminbckhjabGreatDoorW6
set_option maxRecDepth 100000
set_option maxHeartbeats 4000000
set_option linter.all false
open And renaming intro->aJ
open Bool renaming and_eq_true->aC, false_eq_true->aR
open Int renaming toNat_natCast->aB
open List renaming mem_of_getElem?->aE, length_take->aF, eq_nil_of_length_eq_zero->aG, length_append->aI, length_cons->aK, mem_append->aL, take_of_length_le->aM, take_append_drop->aN, mem_of_mem_take->aO, mem_cons->aP, take_succ_cons->aQ, drop_length->aS, take_append->aT, append_nil->aU, length_nil->aV, map_cons->aW, map_nil->aX
open Nat renaming reduceBEq->aA, zero_le->aH, add_zero->aY, reduceEqDiff->aZ, reduceAdd->a6, reduceSub->a7, reduceLT->a8
open Option renaming map_some->aD
namespace Go.Pe.Tryz
theorem aHD:∀ (n:Nat) (k:Int) (s:List UInt8),∀ e∈(eF n k s).1,fS e.1 e.2=true
 | 0,_,_,e,h=>by simp [eF] at h
 | n + 1,k,s,e,h=>by
  by_cases iY:(10:UInt8)∈s
  ·cases hr:rd k (dA 10 s) with
   | none=>rw [o5 hr] at h; cases h
   | some d =>
    rw [jF iY hr] at h
    rcases aP.1 h with h|h
    ·rw [h]; exact (w6.1 hr).1
    ·exact aHD n _ _ e h
  ·rw [kC iY] at h; cases h
end Go.Pe.Tryz
namespace Go.Pe.Tryz
open Go.Proofs.Tryz Go.Sort
def aIr (s:List UInt8):List D:=if s.length<=30000 then [eQ (s.take (eF 60 0 s).2) [] ((eF 60 0 s).1.length:Nat),.int .i64 ((eF 60 0 s).2:Nat),.bool true] else [eQ [] [] 0,.int .i64 0,.bool false]
theorem aDb (s:List UInt8) (hl:s.length<=100000000):Fn prog 26 [.str s] (fun rs=>rs=aIr s):=by
 have hE:=nZ 60 0 s
 by_cases h:s.length<=30000
 ·have hR:=rY s hl
  have hd:decide ((s.length:Int) > 30000)=false:=decide_eq_false (by omega)
  have hd':decide ((30000:Int) < (s.length:Int))=false:=decide_eq_false (by omega)
  unfold aIr
  rw [if_pos h]
  refine c7 aTd [] ?_
  dsimp only [aTd,cY,dD]
  simp only [eQ]
  repeat' (first|(simp only [hd,hd',cU,cM,aB,↓wA,↓wC,wB,cQ,cP,aZ,a6,a7,reduceIte,reduceCtorEq,aA,a8,mF])|(refine cO (hR) rfl rfl ?_)|(refine cR (hR) rfl rfl ?_)|(with_reducible refine cW ?_ ?_; focus omega)|((first|apply cJ|apply cK|apply cI)<;>intro h<;>try simp only [h]))
  all_goals rfl
 ·have hd:decide ((s.length:Int) > 30000)=true:=decide_eq_true (by omega)
  have hd':decide ((30000:Int) < (s.length:Int))=true:=decide_eq_true (by omega)
  unfold aIr
  rw [if_neg h]
  refine c7 aTd [] ?_
  dsimp only [aTd,cY,dD]
  simp only [eQ]
  repeat' (first|(simp only [hd,hd',↓wA,↓wC,wB,cQ,cP,aZ,a6,a7,reduceIte,reduceCtorEq,aA,a8,mF])|((first|apply cJ|apply cK|apply cI)<;>intro h<;>try simp only [h]))
  all_goals rfl
theorem aCO {e:List UInt8×List UInt8}:gC [0] (kU e)=some (.str e.1):=rfl
theorem aCF {e:List UInt8×List UInt8}:gC [1] (kU e)=some (.str e.2):=rfl
theorem aCQ {e:List UInt8×List UInt8}:fJ [0] (kU e)=0:=rfl
theorem aCI {e:List UInt8×List UInt8}:fJ [1] (kU e)=1:=rfl
theorem aAx (d p:List UInt8) (c:Int) (hl:d.length + p.length<=1048576):Fn prog 54 [eQ d p c] (fun rs=>rs=[.sl true 2 (dl kU (lF d p c)),.bool (lv d p c)]):=by
 have hV:=tQ d p c (by omega)
 have hO:=y4 (d ++ p) (by rw [aI]; omega)
 unfold lF
 cases hv:lv d p c with
 | true =>
  rw [hv] at hV
  refine c7 aQT [] ?_
  dsimp only [aQT,cY,dD]
  simp only [eQ] at hV ⊢
  repeat' (first|(simp only [cM,↓wA,↓wC,wB,cQ,cP,aZ,a6,a7,reduceIte,reduceCtorEq,aA,a8])|(refine cO (hV) rfl rfl ?_)|(refine cR (hV) rfl rfl ?_)|(refine cO (hO) rfl rfl ?_)|(refine cR (hO) rfl rfl ?_)|(with_reducible refine cW ?_ ?_; focus omega)|((first|apply cJ|apply cK|apply cI)<;>intro h<;>try simp only [h]))
  all_goals simp [nF]
 | false =>
  rw [hv] at hV
  refine c7 aQT [] ?_
  dsimp only [aQT,cY,dD]
  simp only [eQ] at hV ⊢
  repeat' (first|(simp only [cM,↓wA,↓wC,wB,cQ,cP,aZ,a6,a7,reduceIte,reduceCtorEq,aA,a8])|(refine cO (hV) rfl rfl ?_)|(refine cR (hV) rfl rfl ?_)|((first|apply cJ|apply cK|apply cI)<;>intro h<;>try simp only [h]))
  all_goals first|rfl|(simp [dl]; rfl)
end Go.Pe.Tryz
namespace Go.Pe.Tryz
open Go.Proofs.Tryz
def aEE (b:Bool) (n:Int):D:=.st (.cons (.int .i64 n) (.cons (.sl b 4 .nil) (.cons (.int .i64 0) (.cons (.int .i64 0) (.cons (.sl b 1 .nil) .nil)))))
def aMb (n:Int):List D:=if dE n 0 20000=true then [aEE true n,.bool true] else [aEE true 0,.bool false]
theorem aGL (n:Int):Fn prog 55 [.int .i64 n] (fun rs=>rs=aMb n):=by
 refine c7 aX5 [] ?_
 dsimp only [aX5,cY,dD]
 try simp only [↓wA,↓wC,wB,cQ,cP,aZ,a6,a7,reduceIte,reduceCtorEq,aA,a8,dJ]
 refine cO (aD7 n) rfl rfl ?_
 cases h:dE n 0 20000<;>simp only [↓wA,↓wC,wB,cQ,cP,aZ,a6,a7,reduceIte,reduceCtorEq,aA,a8,dJ]<;>simp [aMb,aEE,h]
theorem aBN (n:Int):Fn prog 56 [.int .i64 n] (fun rs=>rs=aMb n):=by
 refine c7 aRU [] ?_
 dsimp only [aRU,cY,dD]
 try simp only [↓wA,↓wC,wB,cQ,cP,aZ,a6,a7,reduceIte,reduceCtorEq,aA,a8,dJ]
 refine cO (aAj n) rfl rfl ?_
 cases h:dE n 0 20000<;>simp only [↓wA,↓wC,wB,cQ,cP,aZ,a6,a7,reduceIte,reduceCtorEq,aA,a8,dJ]<;>simp [aMb,aEE,h]
def aMT (b:Bool) (n:Int):D:=.st (.cons (aEE b n) (.cons (.st (.cons (.str []) (.cons (.str []) (.cons (.int .i64 0) .nil)))) .nil))
def yK (b:Bool) (n:Int):List D:=if dE n 0 20000=true then [aMT false n,.bool true] else [aMT b 0,.bool false]
theorem aE1 (n:Int):Fn prog 23 [.int .i64 n] (fun rs=>rs=yK false n):=by
 have hO:=aGL n
 unfold aMb at hO
 refine c7 aXe [] ?_
 dsimp only [aXe,cY,dD]
 try simp only [↓wA,↓wC,wB,cQ,cP,aZ,a6,a7,reduceIte,reduceCtorEq,aA,a8,eL]
 cases h:dE n 0 20000<;>simp only [h,if_true,if_false,aR,aEE] at hO<;>replace hO:=fE hO<;>simp only [aW,aX,D.unown] at hO
 ·refine cO hO rfl rfl ?_
  simp only [↓wA,↓wC,wB,cQ,cP,aZ,a6,a7,reduceIte,reduceCtorEq,aA,a8,eL]
  simp [yK,aMT,aEE,h]
 ·refine cO hO rfl rfl ?_
  simp only [↓wA,↓wC,wB,cQ,cP,aZ,a6,a7,reduceIte,reduceCtorEq,aA,a8,eL]
  simp [yK,aMT,aEE,h]
theorem aAN (n:Int):Fn prog 24 [.int .i64 n] (fun rs=>rs=yK true n):=by
 have hO:=aBN n
 unfold aMb at hO
 refine c7 aX4 [] ?_
 dsimp only [aX4,cY,dD]
 try simp only [↓wA,↓wC,wB,cQ,cP,aZ,a6,a7,reduceIte,reduceCtorEq,aA,a8,eL]
 cases h:dE n 0 20000<;>simp only [h,if_true,if_false,aR,aEE] at hO<;>replace hO:=fE hO<;>simp only [aW,aX,D.unown] at hO
 ·refine cO hO rfl rfl ?_
  simp only [↓wA,↓wC,wB,cQ,cP,aZ,a6,a7,reduceIte,reduceCtorEq,aA,a8,eL]
  simp [yK,aMT,aEE,h]
 ·refine cO hO rfl rfl ?_
  simp only [↓wA,↓wC,wB,cQ,cP,aZ,a6,a7,reduceIte,reduceCtorEq,aA,a8,eL]
  simp [yK,aMT,aEE,h]
end Go.Pe.Tryz
namespace Go.Pe.Tryz
open Go.Proofs.Tryz Go.Sort
theorem aEb (n:Int):(lM n).ok0:=⟨⟨⟨aH _,fun x hx=>by cases hx⟩,aH _,fun s hs=>by cases hs⟩,aH _⟩
theorem aDT (n:Int):Fn prog 23 [.int .i64 n] (fun rs=>rs=[(lM n).s,.bool (dE n 0 20000)]):=by
 have h:=fE (aE1 n)
 have e:(yK false n).map D.unown=[(lM n).s,.bool (dE n 0 20000)]:=by
  unfold yK lM
  cases dE n 0 20000<;>rfl
 rw [e] at h
 exact h
theorem rP (n:Int):Fn prog 24 [.int .i64 n] (fun rs=>rs=[(lM n).s,.bool (dE n 0 20000)]):=by
 have h:=fE (aAN n)
 have e:(yK true n).map D.unown=[(lM n).s,.bool (dE n 0 20000)]:=by
  unfold yK lM
  cases dE n 0 20000<;>rfl
 rw [e] at h
 exact h
theorem aDN:∀ (L:List Rec) {x:Con},x.ok0->(v8 x L).ok0
 | [],x,h=>h
 | e :: L,x,h=>aDN L (x:=(jO x e.1).1) (aGo h)
theorem aLl {x:Con} {L:List Rec} {i:Nat} {e:Rec} (hr:L[i]?=some e):v8 x (L.take (i + 1))=(jO (v8 x (L.take i)) e.1).1:=by
 unfold v8
 rw [fY hr,List.foldl_append]; rfl
theorem aKW {x:Con} {L:List Rec} {i:Nat} {e:Rec} (hr:L[i]?=some e):qS x (L.drop i)=if (jO x e.1).2=e.2 then qS (jO x e.1).1 (L.drop (i + 1)) + 1 else 0:=by
 have hi:=c6 hr
 rw [List.drop_eq_getElem_cons hi]
 rw [List.getElem?_eq_getElem hi] at hr
 injection hr with hr
 rw [hr]; rfl
theorem aHI (d p:List UInt8) (c:Int) (hl:d.length + p.length<=1048576):Fn prog 54 [eQ d p c] (fun rs=>rs=[.sl false 2 (dl kU (lF d p c)),.bool (lv d p c)]):=by
 simpa [D.unown,aCe] using fE (aAx d p c hl)
theorem aK3 {d p:List UInt8} {c:Int} {e:Rec} (he:e∈lF d p c):e.1.length<=1000/\e.2.length<=1000:=by
 unfold lF at he
 split at he
 ·have:=kJ (aHD 60 0 _ e he)
  omega
 ·cases he
theorem u6 (e:Rec):(kU e).noOwn=true:=rfl
theorem aAh (e:Rec):(kU e).isV=true:=rfl
theorem x8 (e:Rec):(kU e).size=2:=rfl
theorem aCV {e:Rec} {K:SV->Prop}:dL 0 0 (.d (.ptr (kU e))) K=K (.d (.ptr (.str e.1))):=by simp [kU,dL,D.pre,D.nth,D.size]
theorem aCR {e:Rec} {K:SV->Prop}:dL 1 1 (.d (.ptr (kU e))) K=K (.d (.ptr (.str e.2))):=by simp [kU,dL,D.pre,D.nth,D.size]
def rpR (day:Int) (d p:List UInt8) (c:Int):List D:=if dE day 0 20000=true/\lv d p c=true then [.int .i64 (qS (lM day) (lF d p c):Nat),.bool true] else [.int .i64 0,.bool false]
theorem sQ (day:Int) (d p:List UInt8) (c:Int) (hl:d.length + p.length<=1048576):Fn prog 21 [.int .i64 day,eQ d p c] (fun rs=>rs=rpR day d p c):=by
 have hN:=aDT day
 have hR:=aLt d p c (by omega)
 unfold rpR
 cases hw:dE day 0 20000 with
 | false =>
  rw [hw] at hN
  rw [if_neg (fun e=>by cases e.1)]
  refine c7 aL9 [] ?_
  dsimp only [aL9,cY,dD]
  repeat' (first|(simp only [aZy,aZz,aZA,eI,fC,↓gK,nK,cM,↓wA,↓wC,wB,cQ,cP,aZ,a6,a7,reduceIte,reduceCtorEq,aA,a8])|(refine cO (hN) rfl rfl ?_)|(refine cR (hN) rfl rfl ?_)|(refine cW rfl ?_)|(refine cO hR rfl rfl ?_)|((first|apply cJ|apply cK|apply cI)<;>intro h<;>try simp only [h]))
  all_goals trace_state
 | true =>
  rw [hw] at hN
  cases hv:lv d p c with
  | false =>
   rw [hv] at hR
   rw [if_neg (fun e=>by cases e.2)]
   refine c7 aL9 [] ?_
   dsimp only [aL9,cY,dD]
   repeat' (first|(simp only [aZy,aZz,aZA,eI,fC,↓gK,nK,cM,↓wA,↓wC,wB,cQ,cP,aZ,a6,a7,reduceIte,reduceCtorEq,aA,a8])|(refine cO (hN) rfl rfl ?_)|(refine cR (hN) rfl rfl ?_)|(refine cW rfl ?_)|(refine cO hR rfl rfl ?_)|((first|apply cJ|apply cK|apply cI)<;>intro h<;>try simp only [h]))
   all_goals trace_state
  | true =>
   rw [hv] at hR
   rw [if_pos ⟨rfl,rfl⟩]
   have hlen:∀ e∈lF d p c,e.1.length<=1000/\e.2.length<=1000:=fun e he=>aK3 he
   have hLl:(lF d p c).length<=1000:=by
    have:=(nZ 60 0 (d ++ p)).2
    unfold lF nF
    rw [hv,if_pos rfl]
    omega
   generalize lF d p c=L at hR hlen hLl
   refine c7 aL9 [] ?_
   dsimp only [aL9,cY,dD]
   repeat' (first|(simp only [aZy,aZz,aZA,eI,fC,↓gK,nK,cU,cM,↓wA,↓wC,wB,cQ,cP,aZ,a6,a7,reduceIte,reduceCtorEq,aA,a8])|(refine cO (hN) rfl rfl ?_)|(refine cR (hN) rfl rfl ?_)|(refine cW rfl ?_)|(refine cO hR rfl rfl ?_)|((first|apply cJ|apply cK|apply cI)<;>intro h<;>try simp only [h]))
   refine dU L.length (fun i:Nat=>⟨[(6,.ptr 1 0 []),(8,.d (.sl false 2 (dl kU L))),(30,.d (.sl false 2 (dl kU L))),(31,.d (.int .i64 L.length)),(32,.d (.int .i64 i))],[.box (eQ d p c),.box (v8 (lM day) (L.take i)).s]⟩) (fun i=>qS (lM day) L=i + qS (v8 (lM day) (L.take i)) (L.drop i)) (cX _ rfl ⟨⟨rfl,rfl⟩,⟨rfl,rfl⟩,⟨rfl,rfl⟩,⟨rfl,rfl⟩,⟨rfl,rfl⟩,trivial⟩) (by simp [v8]) ?_ ?_
   ·intro i hlt hin hd h0
    obtain ⟨e,hr⟩:=dS hlt
    have hx0:=aDN (L.take i) (aEb day)
    have he:=hlen e (aE hr)
    have hX:=qM _ e.1 hx0 (by omega)
    have hat:=aKW (x:=v8 (lM day) (L.take i)) hr
    have hnx:=aLl (x:=lM day) hr
    rw [hat] at hin
    generalize v8 (lM day) (L.take i)=x at hX hin hnx
    by_cases hq:(jO x e.1).2=e.2
    ·have hst:decide ((jO x e.1).2=e.2)=true:=decide_eq_true hq
     rw [if_pos hq] at hin
     repeat' (first|(simp only [hd,h0,hr,hst,aB,aD,cU,dC,aZy,aZz,aZA,↓dY,↓aA1,u6,aAh,x8,aCV,aCR,aCO,aCF,aCQ,aCI,cM,↓wA,↓wC,wB,cQ,cP,aZ,a6,a7,reduceIte,reduceCtorEq,aA,a8])|(refine cW rfl ?_)|(refine dN ?_)|(with_reducible refine aJ ?_ ?_)|(refine cO hX rfl rfl ?_)|(with_reducible refine cW ?_ ?_; focus omega)|(with_reducible refine cV ?_ ?_; focus (simp only [eA]; omega))|((first|apply cJ|apply cK|apply cI)<;>intro h<;>try simp only [h]))
     all_goals
      refine ⟨i + 1,?_,⟨by omega,by rw [hnx]; omega⟩,by omega⟩
      rw [hnx]
      exact (cX _ rfl ⟨⟨rfl,rfl⟩,⟨rfl,rfl⟩,⟨rfl,rfl⟩,⟨rfl,rfl⟩,⟨rfl,rfl⟩,trivial⟩)
    ·have hst:decide ((jO x e.1).2=e.2)=false:=decide_eq_false hq
     rw [if_neg hq] at hin
     repeat' (first|(simp only [hd,h0,hr,hst,aB,aD,cU,dC,aZy,aZz,aZA,↓dY,↓aA1,u6,aAh,x8,aCV,aCR,aCO,aCF,aCQ,aCI,cM,↓wA,↓wC,wB,cQ,cP,aZ,a6,a7,reduceIte,reduceCtorEq,aA,a8])|(refine cW rfl ?_)|(refine dN ?_)|(with_reducible refine aJ ?_ ?_)|(refine cO hX rfl rfl ?_)|(with_reducible refine cW ?_ ?_; focus omega)|(with_reducible refine cV ?_ ?_; focus (simp only [eA]; omega))|((first|apply cJ|apply cK|apply cI)<;>intro h<;>try simp only [h]))
     all_goals rw [hin,aY]
   ·intro hin hd
    rw [aS] at hin
    have hin:qS (lM day) L=L.length:=by rw [hin]; rfl
    rw [hin]
    repeat' (first|(simp only [hd,cU,cM,↓wA,↓wC,wB,cQ,cP,aZ,a6,a7,reduceIte,reduceCtorEq,aA,a8])|((first|apply cJ|apply cK|apply cI)<;>intro h<;>try simp only [h]))
theorem aEN (day:Int) (d p:List UInt8) (c:Int) (hl:d.length + p.length<=1048576):Fn prog 22 [.int .i64 day,eQ d p c] (fun rs=>rs=rpR day d p c):=by
 have hN:=rP day
 have hR:=aHI d p c (by omega)
 have hG:=tQ d p c (by omega)
 unfold rpR
 cases hw:dE day 0 20000 with
 | false =>
  rw [hw] at hN
  rw [if_neg (fun e=>by cases e.1)]
  refine c7 aM6 [] ?_
  dsimp only [aM6,cY,dD]
  repeat' (first|(simp only [aZy,aZz,aZA,eI,fC,↓gK,nK,cM,↓wA,↓wC,wB,cQ,cP,aZ,a6,a7,reduceIte,reduceCtorEq,aA,a8])|(refine cO (hN) rfl rfl ?_)|(refine cR (hN) rfl rfl ?_)|(refine cW rfl ?_)|(refine cO hR rfl rfl ?_)|(refine cO hG rfl rfl ?_)|((first|apply cJ|apply cK|apply cI)<;>intro h<;>try simp only [h]))
  all_goals trace_state
 | true =>
  rw [hw] at hN
  cases hv:lv d p c with
  | false =>
   rw [hv] at hR hG
   rw [if_neg (fun e=>by cases e.2)]
   refine c7 aM6 [] ?_
   dsimp only [aM6,cY,dD]
   repeat' (first|(simp only [aZy,aZz,aZA,eI,fC,↓gK,nK,cM,↓wA,↓wC,wB,cQ,cP,aZ,a6,a7,reduceIte,reduceCtorEq,aA,a8])|(refine cO (hN) rfl rfl ?_)|(refine cR (hN) rfl rfl ?_)|(refine cW rfl ?_)|(refine cO hR rfl rfl ?_)|(refine cO hG rfl rfl ?_)|((first|apply cJ|apply cK|apply cI)<;>intro h<;>try simp only [h]))
   all_goals trace_state
  | true =>
   rw [hv] at hR hG
   rw [if_pos ⟨rfl,rfl⟩]
   have hlen:∀ e∈lF d p c,e.1.length<=1000/\e.2.length<=1000:=fun e he=>aK3 he
   have hLl:(lF d p c).length<=1000:=by
    have:=(nZ 60 0 (d ++ p)).2
    unfold lF nF
    rw [hv,if_pos rfl]
    omega
   generalize lF d p c=L at hR hlen hLl
   refine c7 aM6 [] ?_
   dsimp only [aM6,cY,dD]
   repeat' (first|(simp only [aZy,aZz,aZA,eI,fC,↓gK,nK,cU,cM,↓wA,↓wC,wB,cQ,cP,aZ,a6,a7,reduceIte,reduceCtorEq,aA,a8])|(refine cO (hN) rfl rfl ?_)|(refine cR (hN) rfl rfl ?_)|(refine cW rfl ?_)|(refine cO hR rfl rfl ?_)|(refine cO hG rfl rfl ?_)|((first|apply cJ|apply cK|apply cI)<;>intro h<;>try simp only [h]))
   refine dU L.length (fun i:Nat=>⟨[(6,.ptr 1 0 []),(8,.d (.sl false 2 (dl kU L))),(11,.d (.int .i64 i))],[.box (eQ d p c),.box (v8 (lM day) (L.take i)).s]⟩) (fun i=>qS (lM day) L=i + qS (v8 (lM day) (L.take i)) (L.drop i)) (cX _ rfl ⟨⟨rfl,rfl⟩,⟨rfl,rfl⟩,⟨rfl,rfl⟩,trivial⟩) (by simp [v8]) ?_ ?_
   ·intro i hlt hin hd h0
    obtain ⟨e,hr⟩:=dS hlt
    have hx0:=aDN (L.take i) (aEb day)
    have he:=hlen e (aE hr)
    have hX:=pY _ e.1 hx0 (by omega)
    have hat:=aKW (x:=v8 (lM day) (L.take i)) hr
    have hnx:=aLl (x:=lM day) hr
    rw [hat] at hin
    generalize v8 (lM day) (L.take i)=x at hX hin hnx
    by_cases hq:(jO x e.1).2=e.2
    ·have hst:decide ((jO x e.1).2=e.2)=true:=decide_eq_true hq
     rw [if_pos hq] at hin
     repeat' (first|(simp only [hd,h0,hr,hst,aB,aD,cU,dC,aZy,aZz,aZA,↓dY,↓aA1,u6,aAh,x8,aCV,aCR,aCO,aCF,aCQ,aCI,cM,↓wA,↓wC,wB,cQ,cP,aZ,a6,a7,reduceIte,reduceCtorEq,aA,a8])|(refine cW rfl ?_)|(refine dN ?_)|(with_reducible refine aJ ?_ ?_)|(refine cO hX rfl rfl ?_)|(with_reducible refine cW ?_ ?_; focus omega)|(with_reducible refine cV ?_ ?_; focus (simp only [eA]; omega))|((first|apply cJ|apply cK|apply cI)<;>intro h<;>try simp only [h]))
     all_goals
      refine ⟨i + 1,?_,⟨by omega,by rw [hnx]; omega⟩,by omega⟩
      rw [hnx]
      exact (cX _ rfl ⟨⟨rfl,rfl⟩,⟨rfl,rfl⟩,⟨rfl,rfl⟩,trivial⟩)
    ·have hst:decide ((jO x e.1).2=e.2)=false:=decide_eq_false hq
     rw [if_neg hq] at hin
     repeat' (first|(simp only [hd,h0,hr,hst,aB,aD,cU,dC,aZy,aZz,aZA,↓dY,↓aA1,u6,aAh,x8,aCV,aCR,aCO,aCF,aCQ,aCI,cM,↓wA,↓wC,wB,cQ,cP,aZ,a6,a7,reduceIte,reduceCtorEq,aA,a8])|(refine cW rfl ?_)|(refine dN ?_)|(with_reducible refine aJ ?_ ?_)|(refine cO hX rfl rfl ?_)|(with_reducible refine cW ?_ ?_; focus omega)|(with_reducible refine cV ?_ ?_; focus (simp only [eA]; omega))|((first|apply cJ|apply cK|apply cI)<;>intro h<;>try simp only [h]))
     all_goals rw [hin,aY]
   ·intro hin hd
    rw [aS] at hin
    have hin:qS (lM day) L=L.length:=by rw [hin]; rfl
    rw [hin]
    repeat' (first|(simp only [hd,cU,cM,↓wA,↓wC,wB,cQ,cP,aZ,a6,a7,reduceIte,reduceCtorEq,aA,a8])|((first|apply cJ|apply cK|apply cI)<;>intro h<;>try simp only [h]))
def byE (b:UInt8):D:=.int .u8 (b.toNat:Int)
theorem aK5 (bs:List UInt8):eK bs=dl byE bs:=aFF bs
theorem aLP (bs:List UInt8):(dl byE bs).noOwn=true:=pO (fun _=>rfl) bs
def u9 (t:Bool) (s:List UInt8):List UInt8:=if t=true/\0 < s.length then s.set (s.length - 1) (255 - s.getD (s.length - 1) 0) else s
theorem aNM (t:Bool) (s:List UInt8):(u9 t s).length=s.length:=by
 unfold u9
 split<;>simp
def aGC (d p:List UInt8) (c n:Int) (t:Bool):List D:=if lv d p c=true/\dE n 0 p.length=true then [.str (d ++ u9 t (p.take n.toNat)),.bool true] else [.str [],.bool false]
theorem aNV (b:UInt8):(255:Int) - (b.toNat:Int)=((255 - b).toNat:Int):=by
 have h:b.toNat < 256:=b.toNat_lt
 have h2:b<=255:=by
  rw [UInt8.le_iff_toNat_le]
  show b.toNat<=255
  omega
 rw [UInt8.toNat_sub_of_le _ _ h2]
 show (255:Int) - (b.toNat:Int)=((255 - b.toNat:Nat):Int)
 omega
theorem aWf (L:List UInt8) (i:Nat) (b:UInt8):(dl byE L).setN i (.int .u8 (b.toNat:Int))=dl byE (L.set i b):=kZ (f:=byE) L i b
theorem aG2 (d p:List UInt8) (c n:Int) (t:Bool) (hl:d.length + p.length<=100000000):Fn prog 25 [eQ d p c,.int .i64 n,.bool t] (fun rs=>rs=aGC d p c n t):=by
 have hV:=sR d p c hl
 have hW:=fL n 0 (p.length:Int)
 unfold aGC
 cases hv:lv d p c with
 | false =>
  rw [hv] at hV
  refine c7 aEU [] ?_
  dsimp only [aEU,cY,dD]
  simp only [eQ] at hV ⊢
  repeat' (first|(simp only [↓wA,↓wC,wB,cQ,cP,aZ,a6,a7,reduceIte,reduceCtorEq,aA,a8])|(refine cO (hV) rfl rfl ?_)|(refine cR (hV) rfl rfl ?_)|((first|apply cJ|apply cK|apply cI)<;>intro h<;>try simp only [h]))
  all_goals rfl
 | true =>
  rw [hv] at hV
  cases hw:dE n 0 (p.length:Int) with
  | false =>
   rw [hw] at hW
   refine c7 aEU [] ?_
   dsimp only [aEU,cY,dD]
   simp only [eQ] at hV ⊢
   repeat' (first|(simp only [↓wA,↓wC,wB,cQ,cP,aZ,a6,a7,reduceIte,reduceCtorEq,aA,a8])|(refine cO (hV) rfl rfl ?_)|(refine cR (hV) rfl rfl ?_)|(refine cO (hW) rfl rfl ?_)|(refine cR (hW) rfl rfl ?_)|((first|apply cJ|apply cK|apply cI)<;>intro h<;>try simp only [h]))
   all_goals rfl
  | true =>
   rw [hw] at hW
   simp only [dE,aC,decide_eq_true_eq] at hw
   obtain ⟨m,rfl⟩:∃ m:Nat,n=m:=⟨n.toNat,by omega⟩
   have hm:m<=p.length:=by omega
   have hpl:(p.take m).length=m:=by rw [aF]; omega
   rw [if_pos ⟨rfl,rfl⟩,aB]
   by_cases ht:t=true/\0 < m
   ·obtain ⟨rfl,h0⟩:=ht
    have hd0:decide ((m:Int) > 0)=true:=decide_eq_true (by omega)
    have hd0':decide ((0:Int) < (m:Int))=true:=decide_eq_true (by omega)
    obtain ⟨b,hb⟩:=dS (xs:=p.take m) (i:=m - 1) (by omega)
    have hi:((m:Int) - 1).toNat=m - 1:=by omega
    have hfin:u9 true (p.take m)=(p.take m).set (m - 1) (255 - b):=by
     unfold u9
     rw [hpl,if_pos ⟨rfl,h0⟩,List.getD_eq_getElem?_getD,hb]; rfl
    rw [hfin]
    have hfl:((p.take m).set (m - 1) (255 - b)).length=m:=by simp [hpl]
    have hu8:=(255 - b).toNat_lt
    refine c7 aEU [] ?_
    dsimp only [aEU,cY,dD]
    simp only [eQ] at hV ⊢
    repeat' (first|(simp only [hd0,hd0',aB,byE,cM,aK5,dC,hi,hb,aD,aLP,aNV,aWf,↓wA,↓wC,wB,cQ,cP,aZ,a6,a7,reduceIte,reduceCtorEq,aA,a8])|(refine cO (hV) rfl rfl ?_)|(refine cR (hV) rfl rfl ?_)|(refine cO (hW) rfl rfl ?_)|(refine cR (hW) rfl rfl ?_)|(refine aCN ((p.take m).set (m - 1) (255 - b)) (by rw [aK5]; rfl) ?_)|(with_reducible refine cW ?_ ?_; focus omega)|(with_reducible refine cV ?_ ?_; focus (simp only [eA]; omega))|((first|apply cJ|apply cK|apply cI)<;>intro h<;>try simp only [h]))
   ·have hfin:u9 t (p.take m)=p.take m:=by
     unfold u9
     rw [hpl,if_neg ht]
    rw [hfin]
    cases t with
    | false =>
     refine c7 aEU [] ?_
     dsimp only [aEU,cY,dD]
     simp only [eQ] at hV ⊢
     repeat' (first|(simp only [cM,aB,↓wA,↓wC,wB,cQ,cP,aZ,a6,a7,reduceIte,reduceCtorEq,aA,a8])|(refine cO (hV) rfl rfl ?_)|(refine cR (hV) rfl rfl ?_)|(refine cO (hW) rfl rfl ?_)|(refine cR (hW) rfl rfl ?_)|(refine aCN (p.take m) rfl ?_)|(with_reducible refine cW ?_ ?_; focus omega)|((first|apply cJ|apply cK|apply cI)<;>intro h<;>try simp only [h]))
    | true =>
     have hm0:¬ 0 < m:=fun h=>ht ⟨rfl,h⟩
     have hd0':decide ((0:Int) < (m:Int))=false:=decide_eq_false (by omega)
     refine c7 aEU [] ?_
     dsimp only [aEU,cY,dD]
     simp only [eQ] at hV ⊢
     repeat' (first|(simp only [hd0',cM,aB,↓wA,↓wC,wB,cQ,cP,aZ,a6,a7,reduceIte,reduceCtorEq,aA,a8])|(refine cO (hV) rfl rfl ?_)|(refine cR (hV) rfl rfl ?_)|(refine cO (hW) rfl rfl ?_)|(refine cR (hW) rfl rfl ?_)|(refine aCN (p.take m) rfl ?_)|(with_reducible refine cW ?_ ?_; focus omega)|((first|apply cJ|apply cK|apply cI)<;>intro h<;>try simp only [h]))
end Go.Pe.Tryz
namespace Go.Pe.Tryz
theorem zC:∀ (n:Nat) (k:Int) (s:List UInt8),eF n k (s.take (eF n k s).2)=eF n k s
 | 0,k,s=>by simp [eF]
 | n + 1,k,s=>by
  have e0:eF (n + 1) k s=([],0)->eF (n + 1) k (s.take (eF (n + 1) k s).2)=eF (n + 1) k s:=by
   intro h
   rw [h,List.take_zero,kC (by simp)]
  by_cases iY:(10:UInt8)∈s
  ·cases hr:rd k (dA 10 s) with
   | none=>exact e0 (o5 hr)
   | some e =>
    have hst:=jF (n:=n) iY hr
    have ih:=zC n (k + 1) (after 10 s)
    have hsp:=pQ iY
    have ht:s.take ((dA 10 s).length + 1 + (eF n (k + 1) (after 10 s)).2)=dA 10 s ++ 10 :: (after 10 s).take (eF n (k + 1) (after 10 s)).2:=by
     generalize (eF n (k + 1) (after 10 s)).2=m
     generalize hA:after 10 s=a at *
     generalize hB:dA 10 s=b at *
     subst hsp
     rw [show b.length + 1 + m=b.length + (1 + m) by omega,aT,aM (by omega),show b.length + (1 + m) - b.length=m + 1 by omega,aQ]
    have hn:=oT 10 s
    rw [hst]
    simp only
    rw [ht,jF (by simp) (by rw [lB hn]; exact hr),lB hn,oX hn,ih]
  ·exact e0 (kC iY)
theorem aFY:∀ (n:Nat) (k:Int) (s q:List UInt8),Cut s q->∃ i,(eF n k q).1=(eF n k s).1.take i
 | 0,k,s,q,_=>⟨0,by simp [eF]⟩
 | n + 1,k,s,q,⟨j,t,hq,ht⟩=>by
  by_cases iY:(10:UInt8)∈q
  ·have hm:(10:UInt8)∈s.take j:=by
    rw [hq] at iY
    rcases aL.1 iY with h|h
    ·exact h
    ·exact absurd h ht
   have hs:(10:UInt8)∈s:=aO hm
   have e1:dA 10 q=dA 10 s:=by
    rw [hq,pG hm,<-pG (t:=s.drop j) hm,aN]
   have e2:after 10 s=after 10 (s.take j) ++ s.drop j:=by rw [<- vO hm,aN]
   have e3:after 10 q=(after 10 s).take (after 10 (s.take j)).length ++ t:=by
    rw [hq,vO hm,e2,List.take_left']
    rfl
   cases hr:rd k (dA 10 s) with
   | none=>exact ⟨0,by rw [o5 (by rw [e1]; exact hr)]; simp⟩
   | some e =>
    obtain ⟨i,hi⟩:=aFY n (k + 1) (after 10 s) (after 10 q) ⟨_,t,e3,ht⟩
    refine ⟨i + 1,?_⟩
    rw [jF iY (by rw [e1]; exact hr),jF hs hr,hi]
    simp
  ·exact ⟨0,by rw [kC iY]; simp⟩
theorem aJP {k:Int} {c r:List UInt8} (h:fS c r=true):∀ b∈iW k c r,b.toNat<=126:=by
 have hdig:∀ (n:Int),∀ b∈Lib.itoa n,b.toNat<=126:=by
  intro n b hb
  rcases aEu n b hb with h|h
  ·subst h; decide
  ·omega
 have hpl:∀ (s:List UInt8),plain s=true->∀ b∈s,b.toNat<=126:=by
  intro s hs b hb
  have:=(List.all_eq_true.1 hs) b hb
  simp only [isP,dE,aC,decide_eq_true_eq] at this
  omega
 obtain ⟨_,_,_,hc,hr,_⟩:=kJ h
 intro b hb
 simp only [iW,jN,body,aL,aP] at hb
 rcases hb with (hb|hb|hb|hb|hb)|hb|hb
 ·exact hdig _ b hb
 ·subst hb; decide
 ·exact hpl c hc b hb
 ·subst hb; decide
 ·exact hpl r hr b hb
 ·subst hb; decide
 ·exact hdig _ b hb
theorem aCk:∀ (n:Nat) (k:Int) (s:List UInt8),(eF n k s).2=s.length->∀ b∈s,b.toNat<=126
 | 0,k,s,h,b,hb=>by
  have hd:s=[]:=aG (by rw [<- h]; rfl)
  subst hd; cases hb
 | n + 1,k,s,h,b,hb=>by
  by_cases iY:(10:UInt8)∈s
  ·cases hr:rd k (dA 10 s) with
   | none =>
    rw [o5 hr] at h
    have hd:s=[]:=aG h.symm
    subst hd; cases hb
   | some e =>
    have hl:=oZ iY
    rw [jF (n:=n) iY hr] at h
    simp only at h
    have ih:=aCk n (k + 1) (after 10 s) (by omega)
    obtain ⟨hok,hli⟩:=w6.1 hr
    have hsp:=pQ iY
    rw [hsp] at hb
    rcases aL.1 hb with hb|hb
    ·rw [<- hli] at hb; exact aJP hok b hb
    ·rcases aP.1 hb with hb|hb
     ·subst hb; decide
     ·exact ih b hb
  ·rw [kC iY] at h
   have hd:s=[]:=aG h.symm
   subst hd; cases hb
theorem aPx {p:List UInt8} (hp:∀ b∈p,b.toNat<=126) (t:Bool) (m:Nat) (hm:m<=p.length):Cut p (u9 t (p.take m)):=by
 have hl:(p.take m).length=m:=by rw [aF]; omega
 unfold u9
 split
 ·rename_i h
  rw [hl] at h
  obtain ⟨b,hb⟩:=dS (xs:=p.take m) (i:=m - 1) (by omega)
  have hbp:b∈p:=aO (aE hb)
  have hb126:=hp b hbp
  have hx:(10:UInt8)≠255 - b:=by
   intro e
   have e2:((10:UInt8).toNat:Int)=((255 - b).toNat:Int):=by rw [<- e]
   rw [<- aNV] at e2
   have:((10:UInt8).toNat:Int)=10:=rfl
   omega
  refine ⟨m - 1,[255 - b],?_,by simpa using hx⟩
  rw [hl,List.getD_eq_getElem?_getD,hb]
  show (p.take m).set (m - 1) (255 - b)=_
  have hs:p.take m=p.take (m - 1) ++ [b]:=by
   have e1:m=(m - 1) + 1:=by omega
   have hb':p[m - 1]?=some b:=by rw [List.getElem?_take] at hb; split at hb; exact hb; cases hb
   rw [e1,List.take_succ,hb']
   simp
  have hl2:(p.take (m - 1)).length=m - 1:=by rw [aF]; omega
  rw [hs,List.set_append_right _ _ (by omega),hl2,Nat.sub_self]
  rfl
 ·exact ⟨m,[],by simp,by simp⟩
theorem aLT {d p:List UInt8} {k:Int} (h:lv d p k=true) (t:Bool) (m:Nat) (hm:m<=p.length) :
  d.length<=(eF 60 0 (d ++ u9 t (p.take m))).2/\∃ i,(eF 60 0 (d ++ u9 t (p.take m))).1=(nF d p).take i:=by
 simp only [lv,aC,decide_eq_true_eq] at h
 obtain ⟨⟨h1,h2⟩,h3⟩:=h
 have ha:=xQ 60 0 d p (by omega)
 have hb:=xQ 60 0 d (u9 t (p.take m)) (by omega)
 have hs:∀ b∈p,b.toNat<=126:=fun b hb=>aCk 60 0 (d ++ p) (by omega) b (List.mem_append_right _ hb)
 obtain ⟨i,hi⟩:=aFY (60 - (eF 60 0 d).1.length) (0 + ((eF 60 0 d).1.length:Nat)) p _ (aPx hs t m hm)
 unfold nF
 rw [ha,hb]
 refine ⟨by simp,(eF 60 0 d).1.length + i,?_⟩
 simp only
 rw [hi,aT,aM (l:=(eF 60 0 d).1) (by omega),show (eF 60 0 d).1.length + i - (eF 60 0 d).1.length=i by omega]
theorem aO6 (s:List UInt8):lv (s.take (eF 60 0 s).2) [] ((eF 60 0 s).1.length:Nat)=true:=by
 have hl:=(nZ 60 0 s).1
 have ht:=zC 60 0 s
 simp only [lv,aU,ht,aC,decide_eq_true_eq]
 refine ⟨⟨?_,?_⟩,trivial⟩<;>(rw [aF]; omega)
end Go.Pe.Tryz
namespace Go.Pe.Tryz
open Go.Proofs.Tryz Go.Sort
theorem aF1:∀ (x:Con) (L:List Rec) (i:Nat),qS x L=L.length->qS x (L.take i)=(L.take i).length
 | _,_,0,_=>rfl
 | _,[],_ + 1,_=>rfl
 | x,a :: L,i + 1,hl=>by
  simp only [qS,aK] at hl
  by_cases ha:(jO x a.1).2=a.2
  ·rw [if_pos ha] at hl
   have ih:=aF1 (jO x a.1).1 L i (by omega)
   simp only [aQ,qS]
   rw [if_pos ha,ih,aK]
  ·rw [if_neg ha] at hl
   omega
theorem aMJ {day:Int} {x:Con} (h:aGZ day x) (m:Nat) (hm:m<=x.p.length) (t:Bool) :
  (x.d ++ u9 t (x.p.take m)).length<=30000/\∃ (d:List UInt8) (c n:Nat),aIr (x.d ++ u9 t (x.p.take m))=[eQ d [] c,.int .i64 n,.bool true]/\lv d [] c=true/\d.length<=30000/\qS (lM day) (lF d [] c)=c:=by
 obtain ⟨h1,h2,h3⟩:=h
 simp only [gO,aC] at h1
 have hs:=t8 h1.2
 have hl:(x.d ++ u9 t (x.p.take m)).length<=30000:=by
  rw [aI,aNM,aF]; omega
 obtain ⟨_,i,hi⟩:=aLT h1.2 t m hm
 generalize x.d ++ u9 t (x.p.take m)=s at hl hi
 have hv:=aO6 s
 refine ⟨hl,s.take (eF 60 0 s).2,(eF 60 0 s).1.length,(eF 60 0 s).2,by rw [aIr,if_pos hl],hv,by rw [aF]; omega,?_⟩
 have ht:=zC 60 0 s
 have e:lF (s.take (eF 60 0 s).2) [] ((eF 60 0 s).1.length:Nat)=(eF 60 0 s).1:=by
  unfold lF nF
  rw [if_pos hv,aU,ht]
 have e2:lF x.d x.p x.c=nF x.d x.p:=by
  unfold lF
  rw [if_pos h1.2]
 rw [e2] at h2
 rw [e,hi]
 exact aF1 _ _ _ h2
end Go.Pe.Tryz
namespace Go.Pe.Tryz
open Go.Proofs.Tryz
theorem aPI (code:List UInt8) (k:Nat) (seed:Int) (v:List Int) (hc:code.length<=1048576) (hk:k<=999999999990) (hv:0 < v.length) (hl:v.length<=1048576):wQ prog 91 true (kO code k seed) [.sl false 1 (dl iD v)]
  (fun x' rs=>∃ (m:Int) (k':Nat) (seed':Int),x'=kO code k' seed'/\rs=[.int .i64 m]/\k<=k'/\k'<=k + 2/\m∈v):=by
 refine gF aRY [] ?_
 dsimp only [aRY,cY,dD]
 try simp only [cU,↓wA,↓wC,wB,cQ,cP,aZ,a6,a7,reduceIte,reduceCtorEq,aA,a8]
 refine dM (kW code k seed v.length hc hk) rfl rfl rfl ?_
 rintro _ _ ⟨m,k',s',rfl,rfl,h1,h2,h3,h4⟩
 obtain ⟨y,hy⟩:=dS (show m.toNat < v.length by omega)
 repeat' (first|(simp only [cU,dC,h3,hy,aD,cM,eV,↓wA,↓wC,wB,cQ,cP,aZ,a6,a7,reduceIte,reduceCtorEq,aA,a8])|((first|apply cJ|apply cK|apply cI)<;>intro h<;>try simp only [h]))
 exact ⟨y,k',s',rfl,rfl,h1,h2,aE hy⟩
end Go.Pe.Tryz
set_option maxHeartbeats 2000000
namespace Go.Pe.Tryz
open Go.Proofs.Tryz
theorem aS4 (code:List UInt8) (k:Nat) (seed:Int) (hc:code.length<=1048576) (hk:k<=999999999900):wQ prog 51 true (kO code k seed) []
  (fun x' rs=>∃ (n:Int) (k':Nat) (seed':Int),x'=kO code k' seed'/\rs=[.int .i64 n]/\k<=k'/\k'<=k + 8):=by
 refine gF aYJ [] ?_
 dsimp only [aYJ,cY,dD]
 repeat' (first|(simp only [cM,↓wA,↓wC,wB,cQ,cP,aZ,a6,a7,reduceIte,reduceCtorEq,aA,a8])|((first|apply cJ|apply cK|apply cI)<;>intro h<;>try simp only [h]))
 refine fK 1 ?_
 simp only [m8,lA,kD,D.unown,↓wA,↓wC,wB,cQ,cP,aZ,a6,a7,reduceIte,reduceCtorEq,aA,a8]
 refine dM (aPI code k seed [0,10,100,150,400,1000,3650,19999,20000,20001,-1,365] hc (by omega) (by decide) (by decide)) rfl rfl rfl ?_
 rintro _ _ ⟨m,k1,s1,rfl,rfl,hk1,hk1',hmm⟩
 repeat' (first|(simp only [cM,↓wA,↓wC,wB,cQ,cP,aZ,a6,a7,reduceIte,reduceCtorEq,aA,a8])|((first|apply cJ|apply cK|apply cI)<;>intro h<;>try simp only [h]))
 exact ⟨m,k1,s1,rfl,rfl,by omega,by omega⟩
end Go.Pe.Tryz
set_option maxHeartbeats 8000000
namespace Go.Pe.Tryz
open Go.Proofs.Tryz Go.Sort
theorem aPk (n:Int):aG4 (lM n):=⟨⟨aH _,(fun x hx=>by cases hx),aH _,(fun s hs=>by cases hs)⟩,aH _⟩
theorem aML (d p:List UInt8) (k:Int) (c r:List UInt8):∃ d' p' k' t,aER d p k c r=[eQ d' p' k',.int .i64 t]/\d'.length + p'.length<=d.length + p.length + 1000:=by
 unfold aER
 split
 ·rename_i h
  have hk:=rG h.1
  have hl:=mS (k:=k) (by simp only [eA]; omega) h.2
  split
  ·exact ⟨d,p,k,2,rfl,by omega⟩
  ·exact ⟨d,_,k + 1,0,rfl,by simp only [aI,aK,aV]; omega⟩
 ·exact ⟨d,p,k,1,rfl,by omega⟩
theorem aE3 (code:List UInt8) (hc:code.length<=1048576):Fn prog 20 [.sl false 1 (eK code)] (fun rs=>∃ (n:Int) (d p:List UInt8) (c:Int),rs=[.int .i64 n,eQ d p c]/\d.length + p.length<=1000000):=by
 refine c7 aYd [] ?_
 dsimp only [aYd,cY,dD]
 repeat' (first|(simp only [cM,kQ,↓wA,↓wC,wB,cQ,cP,aZ,a6,a7,reduceIte,reduceCtorEq,aA,a8,mF])|((first|apply cJ|apply cK|apply cI)<;>intro h<;>try simp only [h]))
 refine dM (aS4 code 0 0 hc (by omega)) rfl rfl rfl ?_
 rintro _ _ ⟨day,k1,s1,rfl,rfl,hk1,hk1'⟩
 have hN:=rP day
 cases hw:dE day 0 20000 with
 | false =>
  rw [hw] at hN
  repeat' (first|(simp only [aZy,aZz,aZA,↓dY,cM,↓wA,↓wC,wB,cQ,cP,aZ,a6,a7,reduceIte,reduceCtorEq,aA,a8,mF])|(refine cO (hN) rfl rfl ?_)|(refine cR (hN) rfl rfl ?_)|(refine dN ?_)|((first|apply cJ|apply cK|apply cI)<;>intro h<;>try simp only [h]))
  exact ⟨day,[],[],0,rfl,by simp⟩
 | true =>
  rw [hw] at hN
  repeat' (first|(simp only [aZy,aZz,aZA,↓dY,cM,↓wA,↓wC,wB,cQ,cP,aZ,a6,a7,reduceIte,reduceCtorEq,aA,a8,mF])|(refine cO (hN) rfl rfl ?_)|(refine cR (hN) rfl rfl ?_)|((first|apply cJ|apply cK|apply cI)<;>intro h<;>try simp only [h]))
  refine dM (kW code k1 s1 12 hc (by omega)) rfl rfl rfl ?_
  rintro _ _ ⟨n0,k2,s2,rfl,rfl,hk2,hk2',hn0,hn0'⟩
  repeat' (first|(simp only [cM,↓wA,↓wC,wB,cQ,cP,aZ,a6,a7,reduceIte,reduceCtorEq,aA,a8,mF])|((first|apply cJ|apply cK|apply cI)<;>intro h<;>try simp only [h]))
  refine eM (fun y:Con×Int×Nat×Int=>⟨[(3,.ptr 0 0 []),(4,.ptr 1 0 []),(5,.d (.int .i64 day)),(6,.ptr 2 0 []),(8,.d (.int .i64 y.2.1))],[.box (eQ [] [] 0),.box (kO code y.2.2.1 y.2.2.2),.box y.1.s]⟩)
   (fun y=>aG4 y.1/\(0<=y.2.1/\y.2.1 < 12)/\(y.2.2.1:Int) + 70 * y.2.1<=4000) (fun y=>y.2.1.toNat) (lM day,n0,k2,s2) (cX _ rfl ⟨⟨rfl,rfl⟩,⟨rfl,rfl⟩,⟨rfl,rfl⟩,⟨rfl,rfl⟩,⟨rfl,rfl⟩,trivial⟩) ⟨aPk day,by simp only; omega,by simp only; omega⟩ ?_
  rintro ⟨x,n,k3,s3⟩ ⟨i1,i2,i3⟩
  simp only at i1 i2 i3 ⊢
  cases h1:decide (0 < n) with
  | false =>
   have hn0:=of_decide_eq_false h1
   have hl:=i1.2
   repeat' (first|(simp only [h1,eI,fC,fQ,↓gK,jU,j5,aZy,aZz,aZA,↓dY,cM,↓wA,↓wC,wB,cQ,cP,aZ,a6,a7,reduceIte,reduceCtorEq,aA,a8,mF])|((first|apply cJ|apply cK|apply cI)<;>intro h<;>try simp only [h]))
   refine dM (aAf code k3 s3 3 hc (by omega)) rfl rfl rfl ?_
   rintro _ _ ⟨b,k4,s4,rfl,rfl,hk4,hk4'⟩
   cases b with
   | false =>
    repeat' (first|(simp only [eI,fC,fQ,↓gK,cM,↓wA,↓wC,wB,cQ,cP,aZ,a6,a7,reduceIte,reduceCtorEq,aA,a8,mF])|(refine dN ?_)|((first|apply cJ|apply cK|apply cI)<;>intro h<;>try simp only [h]))
    refine cW rfl (eY _ rfl ?_)
    exact ⟨day,x.d,x.p,x.c,rfl,by omega⟩
   | true =>
    repeat' (first|(simp only [eI,fC,fQ,↓gK,cM,↓wA,↓wC,wB,cQ,cP,aZ,a6,a7,reduceIte,reduceCtorEq,aA,a8,mF])|(refine dN ?_)|((first|apply cJ|apply cK|apply cI)<;>intro h<;>try simp only [h]))
    refine dM (aA3 code k4 s4 hc (by omega)) rfl rfl rfl ?_
    rintro _ _ ⟨a,r,k5,s5,rfl,rfl,hk5,hk5',ha,hr⟩
    have hA:=mY x.d x.p x.c a r (by omega) (by rw [eP]; omega) (by rw [eP]; omega)
    obtain ⟨d',p',c',u,e,f1⟩:=aML x.d x.p x.c a r
    rw [e] at hA
    simp only [mM] at hA ⊢
    repeat' (first|(simp only [eI,fC,fQ,↓gK,cM,↓wA,↓wC,wB,cQ,cP,aZ,a6,a7,reduceIte,reduceCtorEq,aA,a8,mF])|(refine cO (hA) rfl rfl ?_)|(refine cR (hA) rfl rfl ?_)|(refine dN ?_)|((first|apply cJ|apply cK|apply cI)<;>intro h<;>try simp only [h]))
    exact cW rfl (eY _ rfl ⟨day,d',p',c',rfl,by omega⟩)
  | true =>
   have h1':=of_decide_eq_true h1
   repeat' (first|(simp only [h1,aZy,aZz,aZA,↓dY,cM,↓wA,↓wC,wB,cQ,cP,aZ,a6,a7,reduceIte,reduceCtorEq,aA,a8,mF])|(refine dN ?_)|(with_reducible refine aJ ?_ ?_)|(refine dM (rE code k3 s3 x hc (by omega) i1) rfl rfl rfl ?_; rintro _ _ ⟨t,k4,s4,rfl,rfl,hk4,hk4',ht⟩)|((first|apply cJ|apply cK|apply cI)<;>intro h<;>try simp only [h]))
   all_goals
    have hE:=pY x t (rX i1) (by omega)
    have hdq:=aJh i1 t
    generalize (jO x t).1=q at hE hdq
    generalize (jO x t).2=w at hE
    repeat' (first|(simp only [aZy,aZz,aZA,↓dY,cM,↓wA,↓wC,wB,cQ,cP,aZ,a6,a7,reduceIte,reduceCtorEq,aA,a8,mF])|(refine cO hE rfl rfl ?_)|(with_reducible refine cV ?_ ?_; focus (simp only [eA]; omega))|((first|apply cJ|apply cK|apply cI)<;>intro h<;>try simp only [h]))
    exact ⟨(q,n - 1,k4,s4),(cX _ rfl ⟨⟨rfl,rfl⟩,⟨rfl,rfl⟩,⟨rfl,rfl⟩,⟨rfl,rfl⟩,⟨rfl,rfl⟩,trivial⟩),⟨hdq,by simp only; omega,by simp only; omega⟩,by simp only; omega⟩
end Go.Pe.Tryz
namespace Go.Pe.Tryz
open Go.Proofs.Tryz Go.Sort
def lsX (s:List UInt8):List (List UInt8):=if s.length<=4000 then parts 10 s else []
theorem aV5 (s:List UInt8) (hl:s.length<=1000000):Fn prog 17 [.str s,.str [10]] (fun rs=>rs=[.sl false 1 (dl D.str (lsX s)),.bool (decide (s.length<=4000))]):=by
 have h:=fE (aB0 s (by omega))
 unfold lsX
 by_cases h4:s.length<=4000
 ·simpa [h4,D.unown,fF] using h
 ·have h':Fn prog 17 [.str s,.str [10]] (fun rs=>rs=[.sl false 1 .nil,.bool false]):=by simpa [h4,D.unown] using h
  rw [if_neg h4,decide_eq_false h4]
  exact h'
theorem aRb (s:List UInt8):(lsX s).length<=4001:=by
 unfold lsX
 split
 ·have:=aBi 10 s; omega
 ·simp
theorem aVV {s l:List UInt8} (h:l∈lsX s):l.length<=4000:=by
 unfold lsX at h
 split at h
 ·have:=rI 10 s l h; omega
 ·cases h
theorem aOm {day:Int} {x:Con} (h:aGZ day x):x.ok0:=by
 have h1:=h.1
 simp only [gO,aC] at h1
 have:=t8 h1.2
 exact ⟨fI h1.1,by omega⟩
theorem aOR {x:Con}:fJ [1,1] x.s=6:=rfl
theorem aOs {x:Con}:gC [1,1] x.s=some (.str x.p):=rfl
theorem aPZ {d p:List UInt8} {c:Int}:fJ [2] (eQ d p c)=2:=rfl
theorem aQg {d p:List UInt8} {c:Int}:gC [2] (eQ d p c)=some (.int .i64 c):=rfl
theorem aYS (day:Int) (L:List Rec) (h:qS (lM day) L=L.length) {k:Int} (hk:(L.length:Int)=k):(qS (lM day) L:Int)=k:=by rw [h]; exact hk
theorem aHW (code:List UInt8):Fn prog 5 [.sl false 1 (eK code)] (fun rs=>rs=[.bool true]):=by
 have hB:=aGq code
 by_cases hc:(65536:Int) < (code.length:Int)
 ·have hd:decide ((65536:Int) < (code.length:Int))=true:=decide_eq_true hc
  rw [hd] at hB
  refine c7 ef5 [] ?_
  dsimp only [ef5,cY,dD]
  repeat' (first|(simp only [↓wA,↓wC,wB,cQ,cP,aZ,a6,a7,reduceIte,reduceCtorEq,aA,a8])|(refine cO (hB) rfl rfl ?_)|(refine cR (hB) rfl rfl ?_)|((first|apply cJ|apply cK|apply cI)<;>intro h<;>try simp only [h]))
 ·have hd:decide ((65536:Int) < (code.length:Int))=false:=decide_eq_false hc
  rw [hd] at hB
  refine c7 ef5 [] ?_
  dsimp only [ef5,cY,dD]
  repeat' (first|(simp only [↓wA,↓wC,wB,cQ,cP,aZ,a6,a7,reduceIte,reduceCtorEq,aA,a8])|(refine cO (hB) rfl rfl ?_)|(refine cR (hB) rfl rfl ?_)|((first|apply cJ|apply cK|apply cI)<;>intro h<;>try simp only [h]))
  refine tH (aE3 code (by omega)) rfl fun rs h=>?_
  obtain ⟨day,d,p,c,rfl,hl⟩:=h
  refine ⟨.inl rfl,?_⟩
  have hI:=sQ day d p c (by omega)
  have hS:=aEN day d p c (by omega)
  obtain ⟨r1,b1,hr⟩:∃ (n:Int) (b:Bool),rpR day d p c=[.int .i64 n,.bool b]:=by
   unfold rpR; split
   ·exact ⟨_,_,rfl⟩
   ·exact ⟨_,_,rfl⟩
  rw [hr] at hI hS
  have hnn:∀ n:Int,decide (n=n)=true:=fun n=>decide_eq_true rfl
  have hbb:∀ b:Bool,(b != b)=false:=fun b=>by cases b<;>rfl
  repeat' (first|(simp only [hnn,hbb,eI,fC,fQ,↓gK,cM,↓wA,↓wC,wB,cQ,cP,aZ,a6,a7,reduceIte,reduceCtorEq,aA,a8])|(refine cO hI rfl rfl ?_)|(refine cO hS rfl rfl ?_)|((first|apply cJ|apply cK|apply cI)<;>intro h<;>try simp only [h]))
  refine tH (yO code (by omega)) rfl fun rs h=>?_
  obtain ⟨x0,s,rfl,ho,hs⟩:=h
  refine ⟨.inl rfl,?_⟩
  have hN:=aDT day
  have hM:=rP day
  have hV:=sW (lM day) (aEb day)
  have hP:=aV5 s hs
  cases hw:dE day 0 20000 with
  | false =>
   rw [hw] at hN hM
   repeat' (first|(simp only [hnn,hbb,aZy,aZz,aZA,↓dY,cM,↓wA,↓wC,wB,cQ,cP,aZ,a6,a7,reduceIte,reduceCtorEq,aA,a8])|(refine cO hN rfl rfl ?_)|(refine cO hM rfl rfl ?_)|(refine cO hV rfl rfl ?_)|(refine cR hV rfl rfl ?_)|((first|apply cJ|apply cK|apply cI)<;>intro h<;>try simp only [h]))
  | true =>
   rw [hw] at hN hM
   repeat' (first|(simp only [hnn,hbb,aZy,aZz,aZA,↓dY,cM,cZ,↓wA,↓wC,wB,cQ,cP,aZ,a6,a7,reduceIte,reduceCtorEq,aA,a8])|(refine cO hN rfl rfl ?_)|(refine cO hM rfl rfl ?_)|(refine cO hV rfl rfl ?_)|(refine cR hV rfl rfl ?_)|(refine cO hP rfl rfl ?_)|((first|apply cJ|apply cK|apply cI)<;>intro h<;>try simp only [h]))
   have hll:=aRb s
   have hle:∀ l,l∈lsX s->l.length<=4000:=fun l h=>aVV h
   generalize lsX s=L at hll hle ⊢
   refine eM (fun y:Con×Nat=>⟨[(3,.d (.int .i64 day)),(11,.ptr 2 0 []),(15,.d (.sl false 1 (dl D.str L))),(17,.d (.int .i64 y.2))],[.box (eQ d p c),.box x0.s,.box y.1.s]⟩)
    (fun y=>aGZ day y.1/\y.2<=L.length) (fun y=>L.length - y.2) (lM day,0) (cX _ rfl ⟨⟨rfl,rfl⟩,⟨rfl,rfl⟩,⟨rfl,rfl⟩,⟨rfl,rfl⟩,trivial⟩) ⟨aZX hw,aH _⟩ ?_
   rintro ⟨x,i⟩ ⟨hT,hi⟩
   simp only at hT hi ⊢
   have hok:=aOm hT
   cases h1:decide ((i:Int) < (L.length:Int)) with
   | true =>
    have h1':=of_decide_eq_true h1
    obtain ⟨l,hr⟩:=dS (show i < L.length by omega)
    have h0:(0:Int)<=(i:Int):=by omega
    have hE:=qM x l hok (by have:=hle l (aE hr); omega)
    have hT2:=hT.next l
    generalize (jO x l).1=q at hE hT2
    generalize (jO x l).2=w at hE
    repeat' (first|(simp only [h1,h0,cU,dC,hr,aB,aD,cZ,aZy,aZz,aZA,↓dY,cM,↓wA,↓wC,wB,cQ,cP,aZ,a6,a7,reduceIte,reduceCtorEq,aA,a8])|(refine dN ?_)|(with_reducible refine aJ ?_ ?_)|(refine cO hE rfl rfl ?_)|(with_reducible refine cV ?_ ?_; focus (simp only [eA]; omega))|((first|apply cJ|apply cK|apply cI)<;>intro h<;>try simp only [h]))
    exact ⟨(q,i + 1),(cX _ rfl ⟨⟨rfl,rfl⟩,⟨rfl,rfl⟩,⟨rfl,rfl⟩,⟨rfl,rfl⟩,trivial⟩),⟨hT2,by simp only; omega⟩,by simp only; omega⟩
   | false =>
    have hk:=hT.1
    simp only [gO,aC] at hk
    have hcn:((lF x.d x.p x.c).length:Int)=x.c:=by
     have h:=hk.2
     unfold lF nF
     rw [if_pos h]
     simp only [lv,aC,decide_eq_true_eq] at h
     exact h.2.symm
    have hs3:=t8 hk.2
    have hR:=sQ day x.d x.p x.c (by omega)
    have e1:rpR day x.d x.p x.c=[.int .i64 x.c,.bool true]:=by
     unfold rpR; rw [if_pos ⟨hw,hk.2⟩,aYS day _ hT.2.1 hcn]
    rw [e1] at hR
    have hm0:=Int.tmod_nonneg 7 (show (0:Int)<=(x.p.length:Int) by omega)
    have hm1:(x.p.length:Int).tmod 7<=(x.p.length:Int):=by rw [Int.tmod_eq_emod_of_nonneg (by omega)]; omega
    generalize hmm:(x.p.length:Int).tmod 7=m at hm0 hm1
    have hC:=aG2 x.d x.p x.c ((x.p.length:Int) - m) false (by omega)
    obtain ⟨t1,d2,c2,n2,t2,t3,t4,t5⟩:=aMJ hT ((x.p.length:Int) - m).toNat (by omega) false
    have e2:aGC x.d x.p x.c ((x.p.length:Int) - m) false=[.str (x.d ++ u9 false (x.p.take ((x.p.length:Int) - m).toNat)),.bool true]:=by
     unfold aGC; rw [if_pos ⟨hk.2,j9.2 ⟨by omega,by omega⟩⟩]
    rw [e2] at hC
    have hO:=aDb (x.d ++ u9 false (x.p.take ((x.p.length:Int) - m).toNat)) (by omega)
    rw [t2] at hO
    have hR2:=sQ day d2 [] c2 (by simp only [aV]; omega)
    have e3:rpR day d2 [] c2=[.int .i64 c2,.bool true]:=by
     unfold rpR; rw [if_pos ⟨hw,t3⟩,t5]
    rw [e3] at hR2
    generalize x.d ++ u9 false (x.p.take ((x.p.length:Int) - m).toNat)=u at hC hO
    repeat' (first|(simp only [h1,hmm,cU,jU,j5,aOR,aOs,lE,lC,aPZ,aQg,hnn,cZ,eI,fC,fQ,↓gK,aZy,aZz,aZA,↓dY,cM,↓wA,↓wC,wB,cQ,cP,aZ,a6,a7,reduceIte,reduceCtorEq,aA,a8])|(refine cO hR rfl rfl ?_)|(refine cO hC rfl rfl ?_)|(refine cO hO rfl rfl ?_)|(refine cO hR2 rfl rfl ?_)|(with_reducible refine cV ?_ ?_; focus (simp only [eA]; omega))|(with_reducible refine cW ?_ ?_; focus omega)|((first|apply cJ|apply cK|apply cI)<;>intro h<;>try simp only [h]))
theorem lawFnReplay (x0:D) (h0:mE (.sl 1 (.int .u8)) x0):Fn prog 5 [x0] (fun rs=>rs=[.bool true]):=by
 obtain ⟨code,rfl⟩:=aDo x0 h0
 exact aHW code
end Go.Pe.Tryz
