/- What draws: texts, records of a log, logs; What draws: logs, torn ones; the draws of the laws of logs; What draws, by a cursor whose bytes are told by their value: a byte, a number, once in n times, one of some numbers; What draws: a step of an office; A variable is let go, its views with it: they read as data from here on; What draws: an office; What draws: an office and a step, an office alone, a day; What draws: a command line; what a drawn console keeps; What draws: a console; What draws: a console and a script; What draws: a console and a command; The law FnScript; The law FnConsole; What draws: a day and a log that a console built; The law FnReplay -/
import Derived.Test.YtjmobminbckhjabGreatDoorW6
import Derived.Test.YtjmobminbckhjabGreatDoorPeD
import Derived.Test.YtjmobminbckhjabGreatDoorMc1
import Derived.Test.YtjmobminbckhjabGreatDoorMc2
import Derived.Test.YtjmobminbckhjabGreatDoorMc3
import Derived.Test.YtjmobminbckhjabGreatDoorMc4
import Derived.Test.YtjmobminbckhjabGreatDoorMc5
import Derived.Test.YtjmobminbckhjabGreatDoorMc6
import Derived.Test.YtjmobminbckhjabGreatDoorMc7
import Derived.Test.YtjmobminbckhjabGreatDoorMc8
import Derived.Test.YtjmobminbckhjabGreatDoorW5
import Derived.Test.YtjmobminbckhjabGreatDoorW3
set_option maxRecDepth 100000
set_option maxHeartbeats 4000000
set_option linter.all false
open And renaming intro->aP
open Bool renaming and_eq_true->aN
open List renaming length_append->aB, length_cons->aC, length_nil->aD, cons_append->aE, nil_append->aF, length_singleton->aG, mem_of_getElem?->aH, map_cons->aI, map_nil->aK, length_take->aL, mem_singleton->aM, length_drop->aO, mem_append->aQ, mem_cons->aR, any_cons->aS, any_nil->aT
open Nat renaming reduceBEq->aA, reduceEqDiff->aU, reduceAdd->aV, reduceSub->aW, reduceLT->aX
open Option renaming map_some->aJ
namespace Go.Pe.Tryz
open Go.Proofs.Tryz
def aAd (B:Nat):D->Bool
 | .nil=>true
 | .cons (.str s) xs=>decide (s.length<=B) && aAd B xs
 | _=>false
theorem aNg (B:Nat):∀ x:D,aAd B x=true->∃ L:List (List UInt8),x=dl D.str L/\∀ s∈L,s.length<=B:=by
 intro x
 induction x with
 | nil=>intro _; exact ⟨[],rfl,by simp⟩
 | cons x xs _ ih =>
  intro h
  cases x with
  | str s =>
   simp only [aAd,aN,decide_eq_true_eq] at h
   obtain ⟨L,hL,hb⟩:=ih h.2
   refine ⟨s :: L,by rw [hL]; rfl,?_⟩
   intro t ht
   rcases aR.1 ht with e|e
   ·rw [e]; exact h.1
   ·exact hb t e
  | _=>simp [aAd] at h
 | _=>intro h; simp [aAd] at h
theorem aHw (code:List UInt8) (k:Nat) (seed:Int) (x:D) (B:Nat) (hc:code.length<=1048576) (hk:k<=999999999990) (hx:aAd B x=true) (h0:0 < x.len/\x.len<=100000):wQ prog 65 true (kO code k seed) [.sl false 1 x]
  (fun x' rs=>∃ (s:List UInt8) (k':Nat) (seed':Int),x'=kO code k' seed'/\rs=[.str s]/\k<=k'/\k'<=k + 2/\s.length<=B):=by
 obtain ⟨L,rfl,hL⟩:=aNg B x hx
 rw [cU] at h0
 refine gF aWM [] ?_
 dsimp only [aWM,cY,dD]
 try simp only [cU,↓wA,↓wC,wB,cQ,cP,aU,aV,aW,reduceIte,reduceCtorEq,aA,aX,mR]
 refine dM (kW code k seed L.length hc hk) rfl rfl rfl ?_
 rintro _ _ ⟨m,k',s',rfl,rfl,h1,h2,h3,h4⟩
 obtain ⟨y,hy⟩:=dS (show m.toNat < L.length by omega)
 repeat' (first|(simp only [cU,dC,h3,hy,aJ,cM,↓wA,↓wC,wB,cQ,cP,aU,aV,aW,reduceIte,reduceCtorEq,aA,aX,mR])|((first|apply cJ|apply cK|apply cI)<;>intro h<;>try simp only [h]))
 exact ⟨y,k',s',rfl,rfl,h1,h2,hL y (aH hy)⟩
theorem aFZ (code:List UInt8) (k:Nat) (seed:Int) (t w:List UInt8) (hc:code.length<=1048576) (hk:k<=999999999900) (ht:t.length<=100000000) (hw:0 < w.length) (hw2:w.length<=1000):wQ prog 32 true (kO code k seed) [.str t,.str w]
  (fun x' rs=>∃ (s:List UInt8) (k':Nat) (seed':Int),x'=kO code k' seed'/\rs=[.str s]/\k<=k'/\k'<=k + 6/\s.length<=t.length + 1):=by
 by_cases h0:t=[]
 ·have hd:decide (t=[])=true:=decide_eq_true h0
  refine gF aSL [] ?_
  dsimp only [aSL,cY,dD]
  repeat' (first|(simp only [hd,cM,↓wA,↓wC,wB,cQ,cP,aU,aV,aW,reduceIte,reduceCtorEq,aA,aX,mR])|(with_reducible refine cW ?_ ?_; focus omega)|((first|apply cJ|apply cK|apply cI)<;>intro h<;>try simp only [h]))
  exact ⟨_,k,seed,rfl,rfl,by omega,by omega,by rw [aL]; omega⟩
 ·have hd:decide (t=[])=false:=decide_eq_false h0
  have hl0:0 < t.length:=List.length_pos_iff.2 h0
  refine gF aSL [] ?_
  dsimp only [aSL,cY,dD]
  repeat' (first|(simp only [hd,cM,↓wA,↓wC,wB,cQ,cP,aU,aV,aW,reduceIte,reduceCtorEq,aA,aX,mR])|((first|apply cJ|apply cK|apply cI)<;>intro h<;>try simp only [h]))
  refine dM (kW code k seed t.length hc (by omega)) rfl rfl rfl ?_
  rintro _ _ ⟨i,k1,s1,rfl,rfl,hk1,hk1',hi,hi'⟩
  repeat' (first|(simp only [cM,↓wA,↓wC,wB,cQ,cP,aU,aV,aW,reduceIte,reduceCtorEq,aA,aX,mR])|((first|apply cJ|apply cK|apply cI)<;>intro h<;>try simp only [h]))
  refine dM (kW code k1 s1 w.length hc (by omega)) rfl rfl rfl ?_
  rintro _ _ ⟨j,k2,s2,rfl,rfl,hk2,hk2',hj,hj'⟩
  have hdl:1<=(w.drop j.toNat).length:=by rw [aO]; omega
  have h1l:((w.drop j.toNat).take 1).length<=1:=by rw [aL]; omega
  repeat' (first|(simp only [cM,↓wA,↓wC,wB,cQ,cP,aU,aV,aW,reduceIte,reduceCtorEq,aA,aX,mR])|(with_reducible refine cW ?_ ?_; focus omega)|((first|apply cJ|apply cK|apply cI)<;>intro h<;>try simp only [h]))
  generalize hS:(w.drop j.toNat).take (1:Int).toNat=q
  have hq:q.length<=1:=by rw [<- hS,aL]; show min 1 _<=1; omega
  refine dM (kW code k2 s2 3 hc (by omega)) rfl rfl rfl ?_
  rintro _ _ ⟨m,k3,s3,rfl,rfl,hk3,hk3',hm,hm'⟩
  have l1:(t.take i.toNat).length=i.toNat:=by rw [aL]; omega
  have l2:(t.drop i.toNat).length=t.length - i.toNat:=by rw [aO]
  have l3:(t.drop (i + 1).toNat).length=t.length - (i.toNat + 1):=by rw [aO]; omega
  repeat' (first|(simp only [cM,↓wA,↓wC,wB,cQ,cP,aU,aV,aW,reduceIte,reduceCtorEq,aA,aX,mR])|(with_reducible refine cW ?_ ?_; focus omega)|(with_reducible refine cW ?_ ?_; focus (simp only [aB]; omega))|(with_reducible refine cV ?_ ?_; focus (simp only [eA]; omega))|((first|apply cJ|apply cK|apply cI)<;>intro h<;>try simp only [h]))
  all_goals exact ⟨_,k3,s3,rfl,rfl,by omega,by omega,by simp only [aB]; omega⟩
theorem aA3 (code:List UInt8) (k:Nat) (seed:Int) (hc:code.length<=1048576) (hk:k<=999999999900):wQ prog 52 true (kO code k seed) []
  (fun x' rs=>∃ (c r:List UInt8) (k':Nat) (seed':Int),x'=kO code k' seed'/\rs=[mM c r]/\k<=k'/\k'<=k + 20/\c.length<=20/\r.length<=20):=by
 refine gF aYC [] ?_
 dsimp only [aYC,cY,dD]
 repeat' (first|(simp only [cM,↓wA,↓wC,wB,cQ,cP,aU,aV,aW,reduceIte,reduceCtorEq,aA,aX,mR])|((first|apply cJ|apply cK|apply cI)<;>intro h<;>try simp only [h]))
 refine fK 2 ?_
 simp only [m8,lA,kD,D.unown,↓wA,↓wC,wB,cQ,cP,aU,aV,aW,reduceIte,reduceCtorEq,aA,aX,mR]
 refine dM (aHw code k seed _ 20 hc (by omega) (by rfl) (by decide)) rfl rfl rfl ?_
 rintro _ _ ⟨c,k1,s1,rfl,rfl,hk1,hk1',hmc⟩
 repeat' (first|(simp only [cM,↓wA,↓wC,wB,cQ,cP,aU,aV,aW,reduceIte,reduceCtorEq,aA,aX,mR])|((first|apply cJ|apply cK|apply cI)<;>intro h<;>try simp only [h]))
 refine fK 3 ?_
 simp only [m8,lA,kD,D.unown,↓wA,↓wC,wB,cQ,cP,aU,aV,aW,reduceIte,reduceCtorEq,aA,aX,mR]
 refine dM (aHw code k1 s1 _ 20 hc (by omega) (by rfl) (by decide)) rfl rfl rfl ?_
 rintro _ _ ⟨r,k2,s2,rfl,rfl,hk2,hk2',hmr⟩
 repeat' (first|(simp only [cM,↓wA,↓wC,wB,cQ,cP,aU,aV,aW,reduceIte,reduceCtorEq,aA,aX,mR])|((first|apply cJ|apply cK|apply cI)<;>intro h<;>try simp only [h]))
 refine dM (kW code k2 s2 24 hc (by omega)) rfl rfl rfl ?_
 rintro _ _ ⟨m,k3,s3,rfl,rfl,hk3,hk3',hm,hm'⟩
 repeat' (first|(simp only [cM,↓wA,↓wC,wB,cQ,cP,aU,aV,aW,reduceIte,reduceCtorEq,aA,aX,mR])|(refine aCN [0,0,0] rfl ?_)|(with_reducible refine cW ?_ ?_; focus omega)|((first|apply cJ|apply cK|apply cI)<;>intro h<;>try simp only [h]))
 ·skip
  refine fK 6 ?_
  simp only [m8,lA,kD,D.unown,↓wA,↓wC,wB,cQ,cP,aU,aV,aW,reduceIte,reduceCtorEq,aA,aX,mR]
  refine dM (aHw code k3 s3 _ 20 hc (by omega) (by rfl) (by decide)) rfl rfl rfl ?_
  rintro _ _ ⟨c2,k4,s4,rfl,rfl,hk4,hk4',hmc2⟩
  repeat' (first|(simp only [cM,↓wA,↓wC,wB,cQ,cP,aU,aV,aW,reduceIte,reduceCtorEq,aA,aX,mR])|((first|apply cJ|apply cK|apply cI)<;>intro h<;>try simp only [h]))
  exact ⟨_,_,k4,s4,rfl,rfl,by omega,by omega,hmc2,hmr⟩
 ·skip
  refine fK 5 ?_
  simp only [m8,lA,kD,D.unown,↓wA,↓wC,wB,cQ,cP,aU,aV,aW,reduceIte,reduceCtorEq,aA,aX,mR]
  refine dM (aHw code k3 s3 _ 20 hc (by omega) (by rfl) (by decide)) rfl rfl rfl ?_
  rintro _ _ ⟨c2,k4,s4,rfl,rfl,hk4,hk4',hmc2⟩
  repeat' (first|(simp only [cM,↓wA,↓wC,wB,cQ,cP,aU,aV,aW,reduceIte,reduceCtorEq,aA,aX,mR])|((first|apply cJ|apply cK|apply cI)<;>intro h<;>try simp only [h]))
  exact ⟨_,_,k4,s4,rfl,rfl,by omega,by omega,hmc,hmc2⟩
 ·exact ⟨_,_,k3,s3,rfl,rfl,by omega,by omega,hmc,hmr⟩
theorem aFJ (d p:List UInt8) (k:Int) (c r:List UInt8) (h0:0<=k) (h1:k<=61):∃ d' p' k' t,aER d p k c r=[eQ d' p' k',.int .i64 t]/\d'.length + p'.length<=d.length + p.length + 1000/\0<=k'/\k'<=61:=by
 unfold aER
 split
 ·rename_i h
  have hk:=rG h.1
  have hl:=mS (k:=k) (by simp only [eA]; omega) h.2
  split
  ·exact ⟨d,p,k,2,rfl,by omega,h0,h1⟩
  ·exact ⟨d,_,k + 1,0,rfl,by simp only [aB,aC,aD]; omega,by omega,by omega⟩
 ·exact ⟨d,p,k,1,rfl,by omega,h0,h1⟩
theorem aKk (d p:List UInt8) (k:Int) (h0:0<=k) (h1:k<=61):∃ d' p' k' t,aLz d p k=[eQ d' p' k',.bool t]/\d'.length + p'.length<=d.length + p.length/\0<=k'/\k'<=61:=by
 unfold aLz
 split
 ·exact ⟨d ++ p,[],k,true,rfl,by simp,h0,h1⟩
 ·exact ⟨[],[],0,false,rfl,by simp,by omega,by omega⟩
theorem aV1 (code:List UInt8) (k:Nat) (seed:Int) (hc:code.length<=1048576) (hk:k<=999999999000):wQ prog 97 true (kO code k seed) []
  (fun x' rs=>∃ (d p:List UInt8) (n:Int) (k':Nat) (seed':Int),x'=kO code k' seed'/\rs=[eQ d p n]/\k<=k'/\k'<=k + 300/\d.length + p.length<=10000/\0<=n/\n<=61):=by
 refine gF aYp [] ?_
 dsimp only [aYp,cY,dD]
 repeat' (first|(simp only [cM,↓wA,↓wC,wB,cQ,cP,aU,aV,aW,reduceIte,reduceCtorEq,aA,aX,mF])|((first|apply cJ|apply cK|apply cI)<;>intro h<;>try simp only [h]))
 refine dM (kW code k seed 7 hc (by omega)) rfl rfl rfl ?_
 rintro _ _ ⟨n0,k1,s1,rfl,rfl,hk1,hk1',hn0,hn0'⟩
 repeat' (first|(simp only [cM,↓wA,↓wC,wB,cQ,cP,aU,aV,aW,reduceIte,reduceCtorEq,aA,aX,mF])|((first|apply cJ|apply cK|apply cI)<;>intro h<;>try simp only [h]))
 refine eM (fun x:Nat×(List UInt8×List UInt8×Int)×Nat×Int=>⟨[(0,.ptr 0 0 []),(2,.ptr 1 0 []),(3,.ptr 2 0 []),(4,.d (.int .i64 x.1))],[.box (kO code x.2.2.1 x.2.2.2),.box (eQ [] [] 0),.box (eQ x.2.1.1 x.2.1.2.1 x.2.1.2.2)]⟩)
  (fun x=>x.1<=6/\x.2.1.1.length + x.2.1.2.1.length + 1000 * x.1<=7000/\0<=x.2.1.2.2/\x.2.1.2.2<=61/\k<=x.2.2.1/\x.2.2.1 + 30 * x.1<=k + 230) (fun x=>x.1) (n0.toNat,([],[],0),k1,s1)
  (cX _ rfl ⟨⟨rfl,rfl⟩,⟨rfl,rfl⟩,⟨rfl,rfl⟩,⟨by show SV.d (.int .i64 n0)=SV.d (.int .i64 (n0.toNat:Int)); rw [Int.toNat_of_nonneg hn0],rfl⟩,trivial⟩) ⟨by simp; omega,by simp; omega,by simp,by simp,by simp; omega,by simp; omega⟩ ?_
 rintro ⟨n,⟨d,p,c⟩,k2,s2⟩ ⟨i1,i2,i3,i4,i5,i6⟩
 simp only at i1 i2 i3 i4 i5 i6 ⊢
 cases n with
 | zero =>
  have hd:decide ((0:Int) < ((0:Nat):Int))=false:=rfl
  simp only [eQ]
  repeat' (first|(simp only [hd,cM,↓wA,↓wC,wB,cQ,cP,aU,aV,aW,reduceIte,reduceCtorEq,aA,aX,mF])|((first|apply cJ|apply cK|apply cI)<;>intro h<;>try simp only [h]))
  all_goals exact ⟨d,p,c,k2,s2,rfl,rfl,by omega,by omega,by omega,by omega,by omega⟩
 | succ n =>
  have hd:decide ((0:Int) < ((n + 1:Nat):Int))=true:=decide_eq_true (by omega)
  have e5:(((n + 1:Nat):Int) - 1)=(n:Int):=by omega
  simp only [eQ]
  repeat' (first|(simp only [hd,cM,↓wA,↓wC,wB,cQ,cP,aU,aV,aW,reduceIte,reduceCtorEq,aA,aX,mF])|(refine dN ?_)|((first|apply cJ|apply cK|apply cI)<;>intro h<;>try simp only [h]))
  refine dM (aA3 code k2 s2 hc (by omega)) rfl rfl rfl ?_
  rintro _ _ ⟨a,b,k3,s3,rfl,rfl,hk3,hk3',ha,hb⟩
  have hA:=mY d p c a b (by omega) (by rw [eP]; omega) (by rw [eP]; omega)
  obtain ⟨d',p',c',t,e,f1,f2,f3⟩:=aFJ d p c a b i3 i4
  rw [e] at hA
  simp only [eQ,mM] at hA ⊢
  repeat' (first|(simp only [hd,cM,↓wA,↓wC,wB,cQ,cP,aU,aV,aW,reduceIte,reduceCtorEq,aA,aX,mF])|(refine cO (hA) rfl rfl ?_)|(refine cR (hA) rfl rfl ?_)|((first|apply cJ|apply cK|apply cI)<;>intro h<;>try simp only [h]))
  refine dM (aAf code k3 s3 4 hc (by omega)) rfl rfl rfl ?_
  rintro _ _ ⟨q,k4,s4,rfl,rfl,hk4,hk4'⟩
  have hY:=aHE d' p' c' (by omega)
  obtain ⟨d2,p2,c2,t2,e2,g1,g2,g3⟩:=aKk d' p' c' f2 f3
  rw [e2] at hY
  simp only [eQ] at hY ⊢
  repeat' (first|(simp only [hd,cM,↓wA,↓wC,wB,cQ,cP,aU,aV,aW,reduceIte,reduceCtorEq,aA,aX,mF])|(refine cO (hY) rfl rfl ?_)|(refine cR (hY) rfl rfl ?_)|(with_reducible refine cV ?_ ?_; focus (simp only [eA]; omega))|((first|apply cJ|apply cK|apply cI)<;>intro h<;>try simp only [h]))
  all_goals rw [e5]
  ·exact ⟨(n,(d2,p2,c2),k4,s4),(cX _ rfl ⟨⟨rfl,rfl⟩,⟨rfl,rfl⟩,⟨rfl,rfl⟩,⟨rfl,rfl⟩,trivial⟩),⟨by simp only; omega,by simp only; omega,by simp only; omega,by simp only; omega,by simp only; omega,by simp only; omega⟩,by simp⟩
  ·exact ⟨(n,(d',p',c'),k4,s4),(cX _ rfl ⟨⟨rfl,rfl⟩,⟨rfl,rfl⟩,⟨rfl,rfl⟩,⟨rfl,rfl⟩,trivial⟩),⟨by simp only; omega,by simp only; omega,by simp only; omega,by simp only; omega,by simp only; omega,by simp only; omega⟩,by simp⟩
theorem aFU (code:List UInt8) (k:Nat) (seed:Int) (hc:code.length<=1048576) (hk:k<=999999998000):wQ prog 60 true (kO code k seed) []
  (fun x' rs=>∃ (d p:List UInt8) (n:Int) (k':Nat) (seed':Int),x'=kO code k' seed'/\rs=[eQ d p n]/\k<=k'/\k'<=k + 400/\d.length + p.length<=30000/\0<=n/\n<=62):=by
 refine gF aYG [] ?_
 dsimp only [aYG,cY,dD]
 repeat' (first|(simp only [cM,↓wA,↓wC,wB,cQ,cP,aU,aV,aW,reduceIte,reduceCtorEq,aA,aX,mF])|((first|apply cJ|apply cK|apply cI)<;>intro h<;>try simp only [h]))
 refine dM (aV1 code k seed hc (by omega)) rfl rfl rfl ?_
 rintro _ _ ⟨d,p,c,k1,s1,rfl,rfl,hk1,hk1',hl,hc0,hc1⟩
 simp only [eQ]
 repeat' (first|(simp only [cM,↓wA,↓wC,wB,cQ,cP,aU,aV,aW,reduceIte,reduceCtorEq,aA,aX,mF])|((first|apply cJ|apply cK|apply cI)<;>intro h<;>try simp only [h]))
 refine dM (kW code k1 s1 24 hc (by omega)) rfl rfl rfl ?_
 rintro _ _ ⟨m,k2,s2,rfl,rfl,hk2,hk2',hm,hm'⟩
 repeat' (first|(simp only [cM,↓wA,↓wC,wB,cQ,cP,aU,aV,aW,reduceIte,reduceCtorEq,aA,aX,mF])|(with_reducible refine cV ?_ ?_; focus (simp only [eA]; omega))|(with_reducible refine cW ?_ ?_; focus omega)|((first|apply cJ|apply cK|apply cI)<;>intro h<;>try simp only [h]))
 ·exact ⟨d,p,c + 1,k2,s2,rfl,rfl,by omega,by omega,by omega,by omega,by omega⟩
 ·refine dM (aFZ code k2 s2 p [35,64,10,48,49] hc (by omega) (by omega) (by decide) (by decide)) rfl rfl rfl ?_
  rintro _ _ ⟨s,k3,s3,rfl,rfl,hk3,hk3',hs⟩
  repeat' (first|(simp only [cM,↓wA,↓wC,wB,cQ,cP,aU,aV,aW,reduceIte,reduceCtorEq,aA,aX,mF])|((first|apply cJ|apply cK|apply cI)<;>intro h<;>try simp only [h]))
  exact ⟨d,s,c,k3,s3,rfl,rfl,by omega,by omega,by omega,by omega,by omega⟩
 ·exact ⟨d ++ p,p,c,k2,s2,rfl,rfl,by omega,by omega,by simp only [aB]; omega,by omega,by omega⟩
 ·exact ⟨d,p,c,k2,s2,rfl,rfl,by omega,by omega,by omega,by omega,by omega⟩
def pS (cv:Value) (k:Nat) (seed:Int):D:=.st (.cons (.lnk 2 cv) (.cons (.int .i64 k) (.cons (.int .u64 seed) .nil)))
def cL (code:List UInt8) (cv:Value):List (Value×Nat×D):=[(cv,1,eK code)]
theorem eD (code:List UInt8) (cv:Value) {o:List Ob} (h1:o[2]?=some (.tag 1 cv)) (h2:o[1]?=some (.val (.sl false 1 (eK code)))):pI o (cL code cv) :=
 ⟨⟨2,1,false,eK code,h1,h2,(aBY code).symm⟩,trivial⟩
theorem aD1 (code:List UInt8) (cv:Value) (k:Nat) (seed:Int) (hc:code.length<=1048576) (hk:k<=1000000000000):aEt prog 61 (pS cv k seed) (cL code cv) []
  (fun x' rs=>∃ (n:Int) (seed':Int),x'=pS cv (k + 1) seed'/\rs=[.int .i64 n]/\0<=n/\n < 256):=by
 have h0:(0:Int)<=(k:Int):=by omega
 refine vJ aRd [] ?_
 dsimp only [aRd,cY,dD]
 simp only [pS,cL,oD,pX,wY,aI,aK,aE,aF]
 by_cases hlt:k < code.length
 ·obtain ⟨b,hb⟩:=dS hlt
  have hbl:(b.toNat:Int) < 256:=by have:=b.toNat_lt; omega
  have hd:decide ((k:Int) < (code.length:Int))=true:=decide_eq_true (by omega)
  have hd2:decide ((k:Int) + 1<=(code.length:Int))=true:=decide_eq_true (by omega)
  repeat' (first|(simp only [kY,kQ,aBO,hd,hd2,h0,hb,Int.toNat_natCast,aJ,cM,↓wA,↓wC,wB,cQ,cP,aU,aV,aW,reduceIte,reduceCtorEq,aA,aX])|(refine cV (by simp only [eA]; omega) ?_)|(refine aAJ ?_)|((first|apply cJ|apply cK|apply cI)<;>intro h<;>try simp only [h]))
  exact ⟨_,_,rfl,rfl,by omega,hbl⟩
 ·have hd:decide ((k:Int) < (code.length:Int))=false:=decide_eq_false (by omega)
  have hd2:decide ((k:Int) + 1<=(code.length:Int))=false:=decide_eq_false (by omega)
  repeat' (first|(simp only [kY,kQ,hd,hd2,h0,cM,↓wA,↓wC,wB,cQ,cP,aU,aV,aW,reduceIte,reduceCtorEq,aA,aX])|(with_reducible refine cV ?_ ?_; focus (simp only [eA]; omega))|(with_reducible refine cW ?_ ?_; focus omega)|(with_reducible refine aAJ (k:=.u64) ?_)|((first|apply cJ|apply cK|apply cI)<;>intro h<;>try simp only [h]))
  generalize hX:(Int.fdiv _ _:Int)=X
  have h255:=aN2 X
  refine cV (by simp only [eA]; omega) ?_
  simp only [↓wA,↓wC,wB,cQ,cP,aU,aV,aW,reduceIte,reduceCtorEq,aA,aX]
  exact ⟨_,_,rfl,rfl,h255.1,by omega⟩
theorem mU (code:List UInt8) (cv:Value) (k:Nat) (seed n:Int) (hc:code.length<=1048576) (hk:k<=999999999990):aEt prog 29 (pS cv k seed) (cL code cv) [.int .i64 n]
  (fun x' rs=>∃ (m:Int) (k':Nat) (seed':Int),x'=pS cv k' seed'/\rs=[.int .i64 m]/\k<=k'/\k'<=k + 2/\0<=m/\(m < n\/m=0)):=by
 cases h1:decide (n<=1) with
 | true =>
  refine vJ aCq [] ?_
  dsimp only [aCq,cY,dD]
  simp only [cL,oD,pX,wY,aI,aK,aE,aF]
  repeat' (first|(simp only [h1,↓wA,↓wC,wB,cQ,cP,aU,aV,aW,reduceIte,reduceCtorEq,aA,aX])|((first|apply cJ|apply cK|apply cI)<;>intro h<;>try simp only [h]))
  exact ⟨0,k,seed,rfl,rfl,by omega,by omega,by omega,.inr rfl⟩
 | false =>
  have h1':=of_decide_eq_false h1
  have hn0:n≠0:=by omega
  cases h2:decide (200 < n) with
  | false =>
   refine vJ aCq [] ?_
   dsimp only [aCq,cY,dD]
   simp only [cL,oD,pX,wY,aI,aK,aE,aF]
   repeat' (first|(simp only [h1,h2,↓wA,↓wC,wB,cQ,cP,aU,aV,aW,reduceIte,reduceCtorEq,aA,aX])|((first|apply cJ|apply cK|apply cI)<;>intro h<;>try simp only [h]))
   refine eC (aD1 code cv k seed hc (by omega)) rfl rfl rfl (eD code cv rfl rfl) ?_
   rintro _ _ ⟨a,s1,rfl,rfl,ha0,ha1⟩
   refine ⟨⟨rfl,rfl⟩,?_⟩
   have t0:0<=a.tmod n:=Int.tmod_nonneg _ ha0
   have t1:a.tmod n < n:=Int.tmod_lt_of_pos _ (by omega)
   repeat' (first|(simp only [h1,h2,↓wA,↓wC,wB,cQ,cP,aU,aV,aW,reduceIte,reduceCtorEq,aA,aX])|(with_reducible refine cW hn0 ?_)|(with_reducible refine cV ?_ ?_; focus (simp only [eA]; omega))|((first|apply cJ|apply cK|apply cI)<;>intro h<;>try simp only [h]))
   exact ⟨_,k + 1,s1,rfl,rfl,by omega,by omega,t0,.inl t1⟩
  | true =>
   refine vJ aCq [] ?_
   dsimp only [aCq,cY,dD]
   simp only [cL,oD,pX,wY,aI,aK,aE,aF]
   repeat' (first|(simp only [h1,h2,↓wA,↓wC,wB,cQ,cP,aU,aV,aW,reduceIte,reduceCtorEq,aA,aX])|((first|apply cJ|apply cK|apply cI)<;>intro h<;>try simp only [h]))
   refine eC (aD1 code cv k seed hc (by omega)) rfl rfl rfl (eD code cv rfl rfl) ?_
   rintro _ _ ⟨a,s1,rfl,rfl,ha0,ha1⟩
   refine ⟨⟨rfl,rfl⟩,?_⟩
   repeat' (first|(simp only [h1,h2,↓wA,↓wC,wB,cQ,cP,aU,aV,aW,reduceIte,reduceCtorEq,aA,aX])|(with_reducible refine cV ?_ ?_; focus (simp only [eA]; omega))|((first|apply cJ|apply cK|apply cI)<;>intro h<;>try simp only [h]))
   refine eC (aD1 code cv (k + 1) s1 hc (by omega)) rfl rfl rfl (eD code cv rfl rfl) ?_
   rintro _ _ ⟨b,s2,rfl,rfl,hb0,hb1⟩
   refine ⟨⟨rfl,rfl⟩,?_⟩
   have t0:0<=(a * 256 + b).tmod n:=Int.tmod_nonneg _ (by omega)
   have t1:(a * 256 + b).tmod n < n:=Int.tmod_lt_of_pos _ (by omega)
   repeat' (first|(simp only [h1,h2,↓wA,↓wC,wB,cQ,cP,aU,aV,aW,reduceIte,reduceCtorEq,aA,aX])|(with_reducible refine cW hn0 ?_)|(with_reducible refine cV ?_ ?_; focus (simp only [eA]; omega))|((first|apply cJ|apply cK|apply cI)<;>intro h<;>try simp only [h]))
   exact ⟨_,k + 1 + 1,s2,rfl,rfl,by omega,by omega,t0,.inl t1⟩
theorem aK9 (code:List UInt8) (cv:Value) (k:Nat) (seed n:Int) (hc:code.length<=1048576) (hk:k<=999999999990):aEt prog 28 (pS cv k seed) (cL code cv) [.int .i64 n]
  (fun x' rs=>∃ (b:Bool) (k':Nat) (seed':Int),x'=pS cv k' seed'/\rs=[.bool b]/\k<=k'/\k'<=k + 2):=by
 refine vJ aSu [] ?_
 dsimp only [aSu,cY,dD]
 simp only [cL,oD,pX,wY,aI,aK,aE,aF]
 try simp only [↓wA,↓wC,wB,cQ,cP,aU,aV,aW,reduceIte,reduceCtorEq,aA,aX]
 refine eC (mU code cv k seed n hc (by omega)) rfl rfl rfl (eD code cv rfl rfl) ?_
 rintro _ _ ⟨m,k1,s1,rfl,rfl,hk1,hk1',hm,hm'⟩
 refine ⟨⟨rfl,rfl⟩,?_⟩
 simp only [↓wA,↓wC,wB,cQ,cP,aU,aV,aW,reduceIte,reduceCtorEq,aA,aX]
 exact ⟨_,k1,s1,rfl,rfl,hk1,hk1'⟩
theorem fP (code:List UInt8) (cv:Value) (k:Nat) (seed:Int) (v:List Int) (hc:code.length<=1048576) (hk:k<=999999999990) (hv:0 < v.length) (hl:v.length<=1048576):aEt prog 91 (pS cv k seed) (cL code cv) [.sl false 1 (dl iD v)]
  (fun x' rs=>∃ (m:Int) (k':Nat) (seed':Int),x'=pS cv k' seed'/\rs=[.int .i64 m]/\k<=k'/\k'<=k + 2/\m∈v):=by
 refine vJ aRY [] ?_
 dsimp only [aRY,cY,dD]
 simp only [cL,oD,pX,wY,aI,aK,aE,aF]
 try simp only [cU,↓wA,↓wC,wB,cQ,cP,aU,aV,aW,reduceIte,reduceCtorEq,aA,aX]
 refine eC (mU code cv k seed v.length hc (by omega)) rfl rfl rfl (eD code cv rfl rfl) ?_
 rintro _ _ ⟨m,k1,s1,rfl,rfl,hk1,hk1',hm,hm'⟩
 refine ⟨⟨rfl,rfl⟩,?_⟩
 obtain ⟨y,hy⟩:=dS (show m.toNat < v.length by omega)
 repeat' (first|(simp only [cU,dC,hm,hy,aJ,cM,eV,↓wA,↓wC,wB,cQ,cP,aU,aV,aW,reduceIte,reduceCtorEq,aA,aX])|((first|apply cJ|apply cK|apply cI)<;>intro h<;>try simp only [h]))
 exact ⟨y,k1,s1,rfl,rfl,hk1,hk1',aH hy⟩
structure Held (p:Prop):Prop where
 out:p
theorem aVG {G:Prop} {P:PG} {m:MC} {α:Type} {K:Exit->St->Prop} (S:α->St) (C:α->Prop) (a:Held (∀ x,C x->e8 P m (S x) K)->G) (b:∀ x,C x->e8 P m (S x) K):G:=a ⟨b⟩
def aG6 (o:Off):Prop:=o.cs.length<=10/\(∀ x∈o.cs,0<=x.i/\x.i<=1000/\x.h.length<=10/\∀ n∈x.h,0<=n/\n<=1000)/\o.led.length<=20/\∀ s∈o.led,s.length<=1000
theorem aP6 {o:Off} (h:aG6 o):o.ok0:=⟨⟨by have:=h.1; omega,fun x hx=>by have:=(h.2.1 x hx).2.2.1; unfold Cs.ok0; omega⟩,by have:=h.2.2.1; omega,fun s hs=>by have:=h.2.2.2 s hs; omega⟩
theorem aCK {o:Off} (h:dV o=true):aG6 o:=by
 obtain ⟨_,_,h3,_,_,_,_,h8,h9,iY⟩:=eT h
 refine ⟨by omega,fun x hx=>?_,by omega,fun s hs=>by have:=h9 s hs; omega⟩
 have hc:=fT (iY x hx)
 exact ⟨by omega,by omega,by omega,fun n hn=>by have:=hc.2.2.2.2.2.2.2.1 n hn; omega⟩
def aEV (s:Stp):Prop:=(0<=s.k/\s.k<=7)/\(0<=s.i/\s.i<=1000)/\(0<=s.a/\s.a<=4)/\-1<=s.v/\s.v<=20001
def zT:D:=.st (.cons (.int .i64 0) (.cons (.int .i64 0) (.cons (.int .i64 0) (.cons (.int .i64 0) .nil))))
def osS (code:List UInt8) (cv:Value) (x:Nat×Int×Int×Int):St:=⟨[(0,.ptr 0 0 []),(4,.ptr 4 0 []),(5,.d (.int .i64 x.2.2.1)),(6,.d (.int .i64 x.2.2.2))],[.box (pS cv x.1 x.2.1),.val (.sl false 1 (eK code)),.tag 1 cv,.dead,.box zT]⟩
theorem oK {v:List Int} {m a b:Int} (h:m∈v) (hv:v.all (fun n=>decide (a<=n) && decide (n<=b))=true):a<=m/\m<=b:=by
 have:=List.all_eq_true.1 hv m h
 simpa using this
theorem w9 (code:List UInt8) (cv:Value) (k:Nat) (seed:Int) (o:Off) (hc:code.length<=1048576) (hk:k<=999999999000) (ho:aG6 o):aEt prog 63 (pS cv k seed) (cL code cv) [o.s]
  (fun x' rs=>∃ (s:Stp) (k':Nat) (seed':Int),x'=pS cv k' seed'/\rs=[s.d]/\k<=k'/\k'<=k + 40/\aEV s):=by
 have hlen:=ho.1
 refine vJ aXw [[1,1,1,0,0],[1,0]] ?_
 dsimp only [aXw,cY,dD]
 simp only [cL,oD,pX,wY,aI,aK,aE,aF]
 repeat' (first|(simp only [aZw,aZx,cM,↓wA,↓wC,wB,cQ,cP,aU,aV,aW,reduceIte,reduceCtorEq,aA,aX,gZ])|((first|apply cJ|apply cK|apply cI)<;>intro h<;>try simp only [h]))
 refine dF (iV 3 rfl) ?_
 simp only [cQ,cP,aZv,↓wA,↓wC,wB,cQ,cP,aU,aV,aW,reduceIte,reduceCtorEq,aA,aX,gZ]
 have hfa:∀ K:SV->Prop,dL 1 1 (.d (.ptr o.s)) K=K (.d (.ptr (.sl false 4 (dl Cs.s o.cs)))):=fun K=>by simp [Off.s,d5,dL,D.pre,D.nth,D.size]
 repeat' (first|(simp only [cM,↓wA,↓wC,wB,cQ,cP,aU,aV,aW,reduceIte,reduceCtorEq,aA,aX,gZ])|((first|apply cJ|apply cK|apply cI)<;>intro h<;>try simp only [h]))
 refine fK 5 ?_
 simp only [m8,lA,kD,D.unown,↓wA,↓wC,wB,cQ,cP,aU,aV,aW,reduceIte,reduceCtorEq,aA,aX,gZ]
 refine eC (fP code cv k seed [1,12,500] hc (by omega) (by simp) (by simp)) rfl rfl rfl (eD code cv rfl rfl) ?_
 rintro _ _ ⟨m,k1,s1,rfl,rfl,hk1,hk1',hmm⟩
 refine ⟨⟨rfl,rfl⟩,?_⟩
 repeat' (first|(simp only [cM,↓wA,↓wC,wB,cQ,cP,aU,aV,aW,reduceIte,reduceCtorEq,aA,aX,gZ])|((first|apply cJ|apply cK|apply cI)<;>intro h<;>try simp only [h]))
 refine fK 6 ?_
 simp only [m8,lA,kD,D.unown,↓wA,↓wC,wB,cQ,cP,aU,aV,aW,reduceIte,reduceCtorEq,aA,aX,gZ]
 refine eC (fP code cv k1 s1 [1,2,2,9] hc (by omega) (by simp) (by simp)) rfl rfl rfl (eD code cv rfl rfl) ?_
 rintro _ _ ⟨n,k2,s2,rfl,rfl,hk2,hk2',hmn⟩
 refine ⟨⟨rfl,rfl⟩,?_⟩
 have hm2:=oK (a:=0) (b:=1000) hmm (by decide)
 have hn2:=oK (a:=0) (b:=1000) hmn (by decide)
 apply aVG (osS code cv) (fun x=>k<=x.1/\x.1<=k + 12/\(0<=x.2.2.1/\x.2.2.1<=1000)/\0<=x.2.2.2/\x.2.2.2<=1000)
 case a =>
  intro rest
  cases h0:decide ((0:Int) < (o.cs.length:Int)) with
  | false =>
   repeat' (first|(simp only [hfa,cU,h0,c8,cM,↓wA,↓wC,wB,cQ,cP,aU,aV,aW,reduceIte,reduceCtorEq,aA,aX,gZ])|((first|apply cJ|apply cK|apply cI)<;>intro h<;>try simp only [h]))
   refine dF (cX (s':=osS code cv (k2,s2,m,n)) _ rfl ⟨⟨rfl,rfl⟩,⟨rfl,rfl⟩,⟨rfl,rfl⟩,⟨rfl,rfl⟩,trivial⟩) ?_
   exact rest.out (k2,s2,m,n) ⟨by simp only; omega,by simp only; omega,hm2,hn2⟩
  | true =>
   have h0':=of_decide_eq_true h0
   repeat' (first|(simp only [hfa,cU,h0,c8,cM,↓wA,↓wC,wB,cQ,cP,aU,aV,aW,reduceIte,reduceCtorEq,aA,aX,gZ])|((first|apply cJ|apply cK|apply cI)<;>intro h<;>try simp only [h]))
   have hld:(0:Int)<=(o.cs.length:Int):=by omega
   refine aQh (fun s=>∃ (x:Cs) (k':Nat) (s':Int),x∈o.cs/\k2<=k'/\k'<=k2 + 2/\gJ s ⟨[(0,.ptr 0 0 []),(4,.ptr 4 0 []),(6,.d (.int .i64 n)),(7,.ptr 7 0 [])],[.box (pS cv k' s'),.val (.sl false 1 (eK code)),.tag 1 cv,.dead,.box zT,.dead,.dead,.box x.s]⟩) ?_ ?_
   ·refine ⟨?_,?_⟩
    ·refine eC (mU code cv k2 s2 o.cs.length hc (by omega)) rfl rfl rfl (eD code cv rfl rfl) ?_
     rintro _ _ ⟨p,k3,s3,rfl,rfl,hk3,hk3',hp,hp'⟩
     refine ⟨⟨rfl,rfl⟩,?_⟩
     obtain ⟨x,hr⟩:=dS (show p.toNat < o.cs.length by omega)
     repeat' (first|(simp only [dC,hp,hr,aJ,↓iN,aZE,aZD,aZG,cM,↓wA,↓wC,wB,cQ,cP,aU,aV,aW,reduceIte,reduceCtorEq,aA,aX,gZ])|((first|apply cJ|apply cK|apply cI)<;>intro h<;>try simp only [h]))
     exact ⟨x,k3,s3,aH hr,hk3,hk3',(cX _ rfl ⟨⟨rfl,rfl⟩,⟨rfl,rfl⟩,⟨rfl,rfl⟩,⟨rfl,rfl⟩,trivial⟩)⟩
    ·refine eC (mU code cv k2 s2 o.cs.length hc (by omega)) rfl rfl rfl (eD code cv rfl rfl) ?_
     rintro _ _ ⟨p,k3,s3,rfl,rfl,hk3,hk3',hp,hp'⟩
     refine ⟨⟨rfl,rfl⟩,?_⟩
     obtain ⟨x,hr⟩:=dS (show p.toNat < o.cs.length by omega)
     repeat' (first|(simp only [dC,hp,hr,aJ,↓iN,aZE,aZD,aZG,cM,↓wA,↓wC,wB,cQ,cP,aU,aV,aW,reduceIte,reduceCtorEq,aA,aX,gZ])|((first|apply cJ|apply cK|apply cI)<;>intro h<;>try simp only [h]))
     exact ⟨x,k3,s3,aH hr,hk3,hk3',(cX _ rfl ⟨⟨rfl,rfl⟩,⟨rfl,rfl⟩,⟨rfl,rfl⟩,⟨rfl,rfl⟩,trivial⟩)⟩
   ·rintro s1 ⟨x,k3,s3,hx,hk3,hk3',hw⟩
    refine ⟨_,hw,?_⟩
    have hxb:=ho.2.1 x hx
    cases h1:decide ((0:Int) < (x.h.length:Int)) with
    | false =>
     repeat' (first|(simp only [cU,h1,hZ,g9,iQ,iK,dB,cM,↓wA,↓wC,wB,cQ,cP,aU,aV,aW,reduceIte,reduceCtorEq,aA,aX,gZ])|((first|apply cJ|apply cK|apply cI)<;>intro h<;>try simp only [h]))
     refine dF (cX (s':=osS code cv (k3,s3,x.i,n)) _ rfl ⟨⟨rfl,rfl⟩,⟨rfl,rfl⟩,⟨rfl,rfl⟩,⟨rfl,rfl⟩,trivial⟩) ?_
     exact rest.out (k3,s3,x.i,n) ⟨by simp only; omega,by simp only; omega,⟨hxb.1,hxb.2.1⟩,hn2⟩
    | true =>
     have h1':=of_decide_eq_true h1
     repeat' (first|(simp only [cU,h1,hZ,g9,iQ,iK,dB,cM,↓wA,↓wC,wB,cQ,cP,aU,aV,aW,reduceIte,reduceCtorEq,aA,aX,gZ])|((first|apply cJ|apply cK|apply cI)<;>intro h<;>try simp only [h]))
     refine eC (aK9 code cv k3 s3 2 hc (by omega)) rfl rfl rfl (eD code cv rfl rfl) ?_
     rintro _ _ ⟨b,k4,s4,rfl,rfl,hk4,hk4'⟩
     refine ⟨⟨rfl,rfl⟩,?_⟩
     cases b with
     | false =>
      repeat' (first|(simp only [cM,↓wA,↓wC,wB,cQ,cP,aU,aV,aW,reduceIte,reduceCtorEq,aA,aX,gZ])|((first|apply cJ|apply cK|apply cI)<;>intro h<;>try simp only [h]))
      refine dF (cX (s':=osS code cv (k4,s4,x.i,n)) _ rfl ⟨⟨rfl,rfl⟩,⟨rfl,rfl⟩,⟨rfl,rfl⟩,⟨rfl,rfl⟩,trivial⟩) ?_
      exact rest.out (k4,s4,x.i,n) ⟨by simp only; omega,by simp only; omega,⟨hxb.1,hxb.2.1⟩,hn2⟩
     | true =>
      repeat' (first|(simp only [cU,hZ,g9,iQ,iK,dB,cM,↓wA,↓wC,wB,cQ,cP,aU,aV,aW,reduceIte,reduceCtorEq,aA,aX,gZ])|(refine dN ?_)|((first|apply cJ|apply cK|apply cI)<;>intro h<;>try simp only [h]))
      refine eC (mU code cv k4 s4 x.h.length hc (by omega)) rfl rfl rfl (eD code cv rfl rfl) ?_
      rintro _ _ ⟨q,k5,s5,rfl,rfl,hk5,hk5',hq,hq'⟩
      refine ⟨⟨rfl,rfl⟩,?_⟩
      obtain ⟨y,hy⟩:=dS (show q.toNat < x.h.length by omega)
      have hyb:=hxb.2.2.2 y (aH hy)
      repeat' (first|(simp only [dC,hq,hy,aJ,eV,cM,↓wA,↓wC,wB,cQ,cP,aU,aV,aW,reduceIte,reduceCtorEq,aA,aX,gZ])|((first|apply cJ|apply cK|apply cI)<;>intro h<;>try simp only [h]))
      refine dF (cX (s':=osS code cv (k5,s5,x.i,y)) _ rfl ⟨⟨rfl,rfl⟩,⟨rfl,rfl⟩,⟨rfl,rfl⟩,⟨rfl,rfl⟩,trivial⟩) ?_
      exact rest.out (k5,s5,x.i,y) ⟨by simp only; omega,by simp only; omega,⟨hxb.1,hxb.2.1⟩,hyb⟩
 case b =>
  rintro ⟨k',s',id,hold⟩ ⟨b1,b2,hid,hho⟩
  simp only at b1 b2 hid hho
  simp only [osS]
  repeat' (first|(simp only [cM,↓wA,↓wC,wB,cQ,cP,aU,aV,aW,reduceIte,reduceCtorEq,aA,aX,gZ])|((first|apply cJ|apply cK|apply cI)<;>intro h<;>try simp only [h]))
  refine eC (aK9 code cv k' s' 40 hc (by omega)) rfl rfl rfl (eD code cv rfl rfl) ?_
  rintro _ _ ⟨b,k1,s1,rfl,rfl,hk1,hk1'⟩
  refine ⟨⟨rfl,rfl⟩,?_⟩
  cases b with
  | true =>
   repeat' (first|(simp only [cM,↓wA,↓wC,wB,cQ,cP,aU,aV,aW,reduceIte,reduceCtorEq,aA,aX,gZ])|((first|apply cJ|apply cK|apply cI)<;>intro h<;>try simp only [h]))
   refine fK 5 ?_
   simp only [m8,lA,kD,D.unown,↓wA,↓wC,wB,cQ,cP,aU,aV,aW,reduceIte,reduceCtorEq,aA,aX,gZ]
   refine eC (fP code cv k1 s1 [0,7,6] hc (by omega) (by simp) (by simp)) rfl rfl rfl (eD code cv rfl rfl) ?_
   rintro _ _ ⟨a,k2,s2,rfl,rfl,hk2,hk2',hma⟩
   refine ⟨⟨rfl,rfl⟩,?_⟩
   repeat' (first|(simp only [cM,↓wA,↓wC,wB,cQ,cP,aU,aV,aW,reduceIte,reduceCtorEq,aA,aX,gZ])|((first|apply cJ|apply cK|apply cI)<;>intro h<;>try simp only [h]))
   refine fK 6 ?_
   simp only [m8,lA,kD,D.unown,↓wA,↓wC,wB,cQ,cP,aU,aV,aW,reduceIte,reduceCtorEq,aA,aX,gZ]
   refine eC (fP code cv k2 s2 [0,id,1000] hc (by omega) (by simp) (by simp)) rfl rfl rfl (eD code cv rfl rfl) ?_
   rintro _ _ ⟨i,k3,s3,rfl,rfl,hk3,hk3',hmi⟩
   refine ⟨⟨rfl,rfl⟩,?_⟩
   repeat' (first|(simp only [cM,↓wA,↓wC,wB,cQ,cP,aU,aV,aW,reduceIte,reduceCtorEq,aA,aX,gZ])|((first|apply cJ|apply cK|apply cI)<;>intro h<;>try simp only [h]))
   refine fK 7 ?_
   simp only [m8,lA,kD,D.unown,↓wA,↓wC,wB,cQ,cP,aU,aV,aW,reduceIte,reduceCtorEq,aA,aX,gZ]
   refine eC (fP code cv k3 s3 [0,1] hc (by omega) (by simp) (by simp)) rfl rfl rfl (eD code cv rfl rfl) ?_
   rintro _ _ ⟨c,k4,s4,rfl,rfl,hk4,hk4',hmc⟩
   refine ⟨⟨rfl,rfl⟩,?_⟩
   repeat' (first|(simp only [cM,↓wA,↓wC,wB,cQ,cP,aU,aV,aW,reduceIte,reduceCtorEq,aA,aX,gZ])|((first|apply cJ|apply cK|apply cI)<;>intro h<;>try simp only [h]))
   refine fK 8 ?_
   simp only [m8,lA,kD,D.unown,↓wA,↓wC,wB,cQ,cP,aU,aV,aW,reduceIte,reduceCtorEq,aA,aX,gZ]
   refine eC (fP code cv k4 s4 [0,1,-1] hc (by omega) (by simp) (by simp)) rfl rfl rfl (eD code cv rfl rfl) ?_
   rintro _ _ ⟨v,k5,s5,rfl,rfl,hk5,hk5',hmv⟩
   refine ⟨⟨rfl,rfl⟩,?_⟩
   repeat' (first|(simp only [cM,zT,↓wA,↓wC,wB,cQ,cP,aU,aV,aW,reduceIte,reduceCtorEq,aA,aX,gZ])|((first|apply cJ|apply cK|apply cI)<;>intro h<;>try simp only [h]))
   simp only [aR,List.not_mem_nil,or_false] at hma hmi hmc hmv
   exact ⟨⟨a,i,c,v⟩,k5,s5,rfl,rfl,by omega,by omega,by unfold aEV; simp only; omega⟩
  | false =>
   repeat' (first|(simp only [cM,↓wA,↓wC,wB,cQ,cP,aU,aV,aW,reduceIte,reduceCtorEq,aA,aX,gZ])|((first|apply cJ|apply cK|apply cI)<;>intro h<;>try simp only [h]))
   refine eC (mU code cv k1 s1 9 hc (by omega)) rfl rfl rfl (eD code cv rfl rfl) ?_
   rintro _ _ ⟨p,k2,s2,rfl,rfl,hk2,hk2',hp,hp'⟩
   refine ⟨⟨rfl,rfl⟩,?_⟩
   repeat' (first|(simp only [cM,zT,↓wA,↓wC,wB,cQ,cP,aU,aV,aW,reduceIte,reduceCtorEq,aA,aX,gZ])|((first|apply cJ|apply cK|apply cI)<;>intro h<;>try simp only [h]))
   ·refine fK 5 ?_
    simp only [m8,lA,kD,D.unown,↓wA,↓wC,wB,cQ,cP,aU,aV,aW,reduceIte,reduceCtorEq,aA,aX,gZ]
    refine eC (fP code cv k2 s2 [1,5,30,100,20001,0] hc (by omega) (by simp) (by simp)) rfl rfl rfl (eD code cv rfl rfl) ?_
    rintro _ _ ⟨v,k3,s3,rfl,rfl,hk3,hk3',hmv⟩
    refine ⟨⟨rfl,rfl⟩,?_⟩
    repeat' (first|(simp only [cM,zT,↓wA,↓wC,wB,cQ,cP,aU,aV,aW,reduceIte,reduceCtorEq,aA,aX,gZ])|((first|apply cJ|apply cK|apply cI)<;>intro h<;>try simp only [h]))
    have hv:=oK (a:=-1) (b:=20001) hmv (by decide)
    exact ⟨⟨_,_,_,_⟩,k3,s3,rfl,rfl,by omega,by omega,by unfold aEV; simp only; omega⟩
   ·refine fK 5 ?_
    simp only [m8,lA,kD,D.unown,↓wA,↓wC,wB,cQ,cP,aU,aV,aW,reduceIte,reduceCtorEq,aA,aX,gZ]
    refine eC (fP code cv k2 s2 [1,5,30,100,20001,0] hc (by omega) (by simp) (by simp)) rfl rfl rfl (eD code cv rfl rfl) ?_
    rintro _ _ ⟨v,k3,s3,rfl,rfl,hk3,hk3',hmv⟩
    refine ⟨⟨rfl,rfl⟩,?_⟩
    repeat' (first|(simp only [cM,zT,↓wA,↓wC,wB,cQ,cP,aU,aV,aW,reduceIte,reduceCtorEq,aA,aX,gZ])|((first|apply cJ|apply cK|apply cI)<;>intro h<;>try simp only [h]))
    have hv:=oK (a:=-1) (b:=20001) hmv (by decide)
    exact ⟨⟨_,_,_,_⟩,k3,s3,rfl,rfl,by omega,by omega,by unfold aEV; simp only; omega⟩
   ·refine fK 5 ?_
    simp only [m8,lA,kD,D.unown,↓wA,↓wC,wB,cQ,cP,aU,aV,aW,reduceIte,reduceCtorEq,aA,aX,gZ]
    refine eC (fP code cv k2 s2 [1,12,40,77,500,998,999,1000] hc (by omega) (by simp) (by simp)) rfl rfl rfl (eD code cv rfl rfl) ?_
    rintro _ _ ⟨i,k3,s3,rfl,rfl,hk3,hk3',hmi⟩
    refine ⟨⟨rfl,rfl⟩,?_⟩
    repeat' (first|(simp only [cM,zT,↓wA,↓wC,wB,cQ,cP,aU,aV,aW,reduceIte,reduceCtorEq,aA,aX,gZ])|((first|apply cJ|apply cK|apply cI)<;>intro h<;>try simp only [h]))
    refine fK 6 ?_
    simp only [m8,lA,kD,D.unown,↓wA,↓wC,wB,cQ,cP,aU,aV,aW,reduceIte,reduceCtorEq,aA,aX,gZ]
    refine eC (fP code cv k3 s3 [1,2,3,3,3,4] hc (by omega) (by simp) (by simp)) rfl rfl rfl (eD code cv rfl rfl) ?_
    rintro _ _ ⟨c,k4,s4,rfl,rfl,hk4,hk4',hmc⟩
    refine ⟨⟨rfl,rfl⟩,?_⟩
    repeat' (first|(simp only [cM,zT,↓wA,↓wC,wB,cQ,cP,aU,aV,aW,reduceIte,reduceCtorEq,aA,aX,gZ])|((first|apply cJ|apply cK|apply cI)<;>intro h<;>try simp only [h]))
    refine fK 7 ?_
    simp only [m8,lA,kD,D.unown,↓wA,↓wC,wB,cQ,cP,aU,aV,aW,reduceIte,reduceCtorEq,aA,aX,gZ]
    refine eC (fP code cv k4 s4 [0,5,5,30,20001,-1] hc (by omega) (by simp) (by simp)) rfl rfl rfl (eD code cv rfl rfl) ?_
    rintro _ _ ⟨v,k5,s5,rfl,rfl,hk5,hk5',hmv⟩
    refine ⟨⟨rfl,rfl⟩,?_⟩
    repeat' (first|(simp only [cM,zT,↓wA,↓wC,wB,cQ,cP,aU,aV,aW,reduceIte,reduceCtorEq,aA,aX,gZ])|((first|apply cJ|apply cK|apply cI)<;>intro h<;>try simp only [h]))
    have hi:=oK (a:=0) (b:=1000) hmi (by decide)
    have hc:=oK (a:=0) (b:=4) hmc (by decide)
    have hv:=oK (a:=-1) (b:=20001) hmv (by decide)
    exact ⟨⟨_,_,_,_⟩,k5,s5,rfl,rfl,by omega,by omega,by unfold aEV; simp only; omega⟩
   ·refine fK 5 ?_
    simp only [m8,lA,kD,D.unown,↓wA,↓wC,wB,cQ,cP,aU,aV,aW,reduceIte,reduceCtorEq,aA,aX,gZ]
    refine eC (fP code cv k2 s2 [1,12,40,77,500,998,999,1000] hc (by omega) (by simp) (by simp)) rfl rfl rfl (eD code cv rfl rfl) ?_
    rintro _ _ ⟨i,k3,s3,rfl,rfl,hk3,hk3',hmi⟩
    refine ⟨⟨rfl,rfl⟩,?_⟩
    repeat' (first|(simp only [cM,zT,↓wA,↓wC,wB,cQ,cP,aU,aV,aW,reduceIte,reduceCtorEq,aA,aX,gZ])|((first|apply cJ|apply cK|apply cI)<;>intro h<;>try simp only [h]))
    refine fK 6 ?_
    simp only [m8,lA,kD,D.unown,↓wA,↓wC,wB,cQ,cP,aU,aV,aW,reduceIte,reduceCtorEq,aA,aX,gZ]
    refine eC (fP code cv k3 s3 [1,2,3,3,3,4] hc (by omega) (by simp) (by simp)) rfl rfl rfl (eD code cv rfl rfl) ?_
    rintro _ _ ⟨c,k4,s4,rfl,rfl,hk4,hk4',hmc⟩
    refine ⟨⟨rfl,rfl⟩,?_⟩
    repeat' (first|(simp only [cM,zT,↓wA,↓wC,wB,cQ,cP,aU,aV,aW,reduceIte,reduceCtorEq,aA,aX,gZ])|((first|apply cJ|apply cK|apply cI)<;>intro h<;>try simp only [h]))
    refine fK 7 ?_
    simp only [m8,lA,kD,D.unown,↓wA,↓wC,wB,cQ,cP,aU,aV,aW,reduceIte,reduceCtorEq,aA,aX,gZ]
    refine eC (fP code cv k4 s4 [0,5,5,30,20001,-1] hc (by omega) (by simp) (by simp)) rfl rfl rfl (eD code cv rfl rfl) ?_
    rintro _ _ ⟨v,k5,s5,rfl,rfl,hk5,hk5',hmv⟩
    refine ⟨⟨rfl,rfl⟩,?_⟩
    repeat' (first|(simp only [cM,zT,↓wA,↓wC,wB,cQ,cP,aU,aV,aW,reduceIte,reduceCtorEq,aA,aX,gZ])|((first|apply cJ|apply cK|apply cI)<;>intro h<;>try simp only [h]))
    have hi:=oK (a:=0) (b:=1000) hmi (by decide)
    have hc:=oK (a:=0) (b:=4) hmc (by decide)
    have hv:=oK (a:=-1) (b:=20001) hmv (by decide)
    exact ⟨⟨_,_,_,_⟩,k5,s5,rfl,rfl,by omega,by omega,by unfold aEV; simp only; omega⟩
   ·exact ⟨⟨_,_,_,_⟩,k2,s2,rfl,rfl,by omega,by omega,by unfold aEV; simp only; omega⟩
   ·exact ⟨⟨_,_,_,_⟩,k2,s2,rfl,rfl,by omega,by omega,by unfold aEV; simp only; omega⟩
   ·refine fK 5 ?_
    simp only [m8,lA,kD,D.unown,↓wA,↓wC,wB,cQ,cP,aU,aV,aW,reduceIte,reduceCtorEq,aA,aX,gZ]
    refine eC (fP code cv k2 s2 [1,10,20001,0] hc (by omega) (by simp) (by simp)) rfl rfl rfl (eD code cv rfl rfl) ?_
    rintro _ _ ⟨v,k3,s3,rfl,rfl,hk3,hk3',hmv⟩
    refine ⟨⟨rfl,rfl⟩,?_⟩
    repeat' (first|(simp only [cM,zT,↓wA,↓wC,wB,cQ,cP,aU,aV,aW,reduceIte,reduceCtorEq,aA,aX,gZ])|((first|apply cJ|apply cK|apply cI)<;>intro h<;>try simp only [h]))
    have hv:=oK (a:=-1) (b:=20001) hmv (by decide)
    exact ⟨⟨_,_,_,_⟩,k3,s3,rfl,rfl,by omega,by omega,by unfold aEV; simp only; omega⟩
   ·exact ⟨⟨_,_,_,_⟩,k2,s2,rfl,rfl,by omega,by omega,by unfold aEV; simp only; omega⟩
def vwS (r:Nat) (y:D) (s:SV):SV:=match s with
 | .vw q=>if q=r then .d y else .vw q
 | s=>if gP r s=true then .any else s
def vwE (r:Nat) (y:D):jP->jP
 | []=>[]
 |(k,s) :: e=>(k,vwS r y s) :: vwE r y e
theorem aIC (r:Nat) (y:D):∀ (e:jP) (t:Nat),look (vwE r y e) t=vwS r y (look e t)
 | [],_=>rfl
 |(k,s) :: e,t=>by
  simp only [vwE,look]
  split
  ·rfl
  ·exact aIC r y e t
theorem aHr:∀ x:D,x.unown.noOwn=true:=by
 intro x
 induction x<;>simp_all [D.unown,D.noOwn]
theorem aR4 {s:St} (r tp:Nat) {xs:D} (h1:s.o[r]?=some (.box (.st xs))) (hp:look s.e tp=.ptr r 0 []):gJ s ⟨vwE r (.st xs.unown) s.e,s.o.set r (.box (.st xs.unown))⟩:=by
 intro c C a w h
 obtain ⟨C',k⟩:=freeze r none [] (x:=.st xs) (ob':=.box (.st xs.unown)) h1 rfl rfl c C a w h
 have hr:=c6 h1
 refine ⟨C',k.tmps,k.defers,fun t=>?_,k.wd,k.fix⟩
 have e1:=k.env t
 have e0:=h.env t
 rw [sG] at e1
 show dX w (Ms c C') C' (look (vwE r (.st xs.unown) s.e) t) _
 rw [aIC]
 cases hs:look s.e t with
 | vw q =>
  rw [hs] at e0 e1
  by_cases hq:q=r
  ·subst hq
   obtain ⟨oc,cs,c1,c2,c3,c4⟩:=e0
   have p0:=h.env tp
   have p1:=k.env tp
   rw [sG] at p1
   rw [hp] at p0 p1
   simp only [gP,aS,aT,Bool.or_false,Bool.false_eq_true,if_false] at p1
   obtain ⟨ob0,q1,q2⟩:=p0
   obtain ⟨oc',r1,r2⟩:=p1
   rw [c1] at q1
   cases q1
   rw [q2] at r2
   have hb:oc'.blk=oc.blk:=by
    injection r2 with r2
    injection r2 with r2
    injection r2 with r2
    exact r2.symm
   obtain ⟨cs',fps,o1,o2,o3⟩:=k.wd.obs q (.box (.st xs.unown)) oc' (by rw [List.getElem?_set]; simp [hr]) r1
   rw [hb] at o1
   have e:=c3.eq o1
   subst e
   have e:=nU _ _ _ (aHr (.st xs)) o2
   subst e
   rw [vwS]
   simp only [if_true]
   exact ⟨cs,o2,c4⟩
  ·have e:([r].any fun r=>gP r (.vw q))=false:=by simp [gP,hq]
   rw [e] at e1
   simp only [vwS,hq,if_false]
   exact e1
 | _ =>
  rw [hs] at e1
  simpa [vwS] using e1
end Go.Pe.Tryz
set_option maxHeartbeats 40000000
namespace Go.Pe.Tryz
open Go.Proofs.Tryz
def aTi (n:Int):Off:=⟨n,[],0,0,[]⟩
theorem aHx (n:Int) (h1:0<=n) (h2:n<=20000):Fn prog 56 [.int .i64 n] (fun rs=>rs=[(aTi n).w,.bool true]):=by
 have h:dE n 0 20000=true:=by simp [dE,h1,h2]
 refine c7 aRU [] ?_
 dsimp only [aRU,cY,dD]
 try simp only [↓wA,↓wC,wB,cQ,cP,aU,aV,aW,reduceIte,reduceCtorEq,aA,aX,dJ]
 refine cO (aAj n) rfl rfl ?_
 simp only [h,↓wA,↓wC,wB,cQ,cP,aU,aV,aW,reduceIte,reduceCtorEq,aA,aX,dJ]
 rfl
theorem aR5 (n:Int) (h1:0<=n) (h2:n<=20000):dV (aTi n)=true:=by
 simp [dV,aTi,oQ,vS,yW,dE,h1,h2]
theorem aQY {s:St} {r:Nat} (o:Off) (tp:Nat) (h1:s.o[r]?=some (.box o.w)) (hp:look s.e tp=.ptr r 0 []):gJ s ⟨vwE r o.s s.e,s.o.set r (.box o.s)⟩:=by
 have h:=aR4 r tp h1 hp
 rw [show o.s=o.w.unown from (aZJ o).symm]
 exact h
theorem aVg {l:List Ob} {r:Nat} {o:Off} (h:l[r]?=some (.box o.w)):dH l [.vw r]=some [o.s]:=by
 have e:uF l r=some o.w:=by unfold uF; rw [h]
 simp only [dH,dQ,e]
 show (match (some (D.st _):Option D),some ([]:List D) with|some x,some xs=>some (x :: xs)|_,_=>none)=_
 rw [show o.s=o.w.unown from (aZJ o).symm]
 rfl
theorem aVh {l:List Ob} {r:Nat} {o:Off} {x:D} (h:l[r]?=some (.box o.w)):dH l [.vw r,.d x]=some [o.s,x]:=by
 have e:uF l r=some o.w:=by unfold uF; rw [h]
 simp only [dH,dQ,e]
 rw [show o.s=o.w.unown from (aZJ o).symm]
 rfl
theorem aPH {o:Off} {t:Stp} (ho:o.ok0) (h:pT o t.k t.i t.a t.v=false):Fn prog 96 [o.s,t.d] (fun rs=>rs=[aCr.w,.bool false]):=by
 have h1:=uQ o t.k t.i t.a t.v ho
 have e:sD o t.k t.i t.a t.v=aCr:=by
  unfold sD
  unfold pT at h
  cases hq:iO o t.k t.i t.a t.v with
  | none=>rfl
  | some q=>rw [hq] at h; cases h
 rw [h,e] at h1
 exact h1
theorem aON {o:Off} {t:Stp} (ho:o.ok0) (h:pT o t.k t.i t.a t.v=true):∃ q:Off,dV q=true/\Fn prog 96 [o.s,t.d] (fun rs=>rs=[q.w,.bool true]):=by
 have h1:=uQ o t.k t.i t.a t.v ho
 unfold pT at h
 cases hq:iO o t.k t.i t.a t.v with
 | none=>rw [hq] at h; cases h
 | some q =>
  refine ⟨q,w3 hq,?_⟩
  unfold sD pT at h1
  rw [hq] at h1
  exact h1
theorem aSD {o:Off}:fJ [0] o.w=0:=rfl
theorem aRM {o:Off}:fJ [2] o.w=2:=rfl
theorem aRF {o:Off}:gC [0] o.w=some (.int .i64 o.day):=rfl
theorem aSr {o:Off}:gC [2] o.w=some (.int .i64 o.kept):=rfl
theorem aRA {o:Off} {n:Int}:j8 [0] o.w (.int .i64 n)=Off.w { o with day:=n }:=rfl
theorem aSj {o:Off} {n:Int}:j8 [2] o.w (.int .i64 n)=Off.w { o with kept:=n }:=rfl
theorem aQU {o:Off} {x:D}:j8 [1] o.w x=d5 o x (.sl true 1 (dl D.str o.led)):=rfl
theorem aR1 {o:Off} {x:D}:j8 [4] o.w x=d5 o (.sl true 4 (dl Cs.s o.cs)) x:=rfl
theorem aIE {o:Off} {x y:D}:fJ [1] (d5 o x y)=1:=rfl
theorem aHv {o:Off} {x y:D}:gC [1] (d5 o x y)=some x:=rfl
theorem aHA {o:Off} {x y z:D}:j8 [1] (d5 o x y) z=d5 o z y:=rfl
theorem aNY {o:Off} {x y:D} {b:Bool}:fJ [4] (d5 o (.sl b 4 x) y)=4:=rfl
theorem aPJ {o:Off} {x y:D}:gC [4] (d5 o x y)=some y:=rfl
theorem aP4 {o:Off} {x y z:D}:j8 [4] (d5 o x y) z=d5 o x z:=rfl
theorem aNJ {α:Type} {s t:St} {S:α->St} (h:kK s S) (k:∀ x,gJ (S x) t):gJ s t:=fun c C a w r=>by
 obtain ⟨x,C',r'⟩:=h c C a w r
 exact k x c C' a w r'
def csg (p:Cs×Bool):D:=if p.2=true then p.1.o else p.1.s
theorem aTI (xs:List Cs):dl Cs.s xs=dl csg (xs.map fun c=>(c,false)):=by
 unfold dl
 rw [List.map_map]
 rfl
theorem aKZ (xs:List Cs) (x:Cs):(dl Cs.s xs).app (D.cons x.o .nil)=dl csg ((xs.map fun c=>(c,false)) ++ [(x,true)]):=by
 rw [aTI]
 exact iT (f:=csg) _ (x,true)
theorem aQR (xs:List Cs) (x:Cs):dl csg ((xs.map fun c=>(c,false)) ++ [(x,false)])=dl Cs.s (xs ++ [x]):=by
 rw [aTI,List.map_append]
 rfl
theorem aOi (xs:List Cs) (x:Cs):lN (.val (.sl true 4 ((dl Cs.s xs).app (D.cons x.o .nil)))) (some xs.length) [3]=some (.sl true 1 (dl iD x.h)):=by
 rw [aKZ]
 simp only [lN,dC]
 have h:((xs.map fun c=>(c,false)) ++ [(x,true)])[xs.length]?=some (x,true):=by
  rw [List.getElem?_append_right (by simp)]
  simp
 rw [h]
 rfl
theorem aPC (xs:List Cs) (x:Cs):eS (.val (.sl true 4 ((dl Cs.s xs).app (D.cons x.o .nil)))) (some xs.length) [3] (D.unown (.sl true 1 (dl iD x.h)))=.val (.sl true 4 (dl Cs.s (xs ++ [x]))):=by
 rw [aKZ]
 simp only [eS,dC]
 have h:((xs.map fun c=>(c,false)) ++ [(x,true)])[xs.length]?=some (x,true):=by
  rw [List.getElem?_append_right (by simp)]
  simp
 rw [h]
 have e:j8 [3] ((Option.map csg (some (x,true))).getD .nil) (D.unown (.sl true 1 (dl iD x.h)))=csg (x,false):=by
  simp only [D.unown,dW]
  rfl
 rw [e,kZ,<-aQR]
 congr 3
 rw [List.set_append_right _ _ (by simp)]
 simp
theorem aMs {o:Off} {x:Cs} {e:jP} {c0 c1 c2 c3 c4 c5:Ob} {l:List Ob} (h0:aCb 7 [c0,c1,c2,c3,c4,c5,.box (Off.w { o with cs:=o.cs ++ [x] })]=true) (hl:l.length=5):gJ ⟨[(0,.ptr 0 0 []),(2,.ptr 3 0 []),(3,.ptr 6 0 [])],[c0,c1,c2,c3,c4,c5,.box (d5 o (.sl true 4 ((dl Cs.s o.cs).app (D.cons x.o .nil))) (.sl true 1 (dl D.str o.led)))] ++ l⟩ ⟨[(0,.ptr 0 0 []),(2,.ptr 3 0 []),(3,.ptr 6 0 [])],[c0,c1,c2,c3,c4,c5,.box (Off.w { o with cs:=o.cs ++ [x] })]⟩:=by
 obtain ⟨l0,l1,l2,l3,l4,rfl⟩:∃ l0 l1 l2 l3 l4,l=[l0,l1,l2,l3,l4]:=by
  match l,hl with
  | [a,b,c,d,e],_=>exact ⟨a,b,c,d,e,rfl⟩
 refine aNJ (f8 6 none [1] (es:=4) (xs:=(dl Cs.s o.cs).app (D.cons x.o .nil)) rfl rfl) fun v=>?_
 refine gJ.trans (freeze 12 (some o.cs.length) [3] (x:=.sl true 1 (dl iD x.h)) (ob':=.val (.sl true 4 (dl Cs.s (o.cs ++ [x])))) rfl (aOi o.cs x) (aPC o.cs x)) ?_
 refine gJ.trans (i7 6 13 12 none [1] (ow:=true) (es:=4) (xs:=dl Cs.s (o.cs ++ [x])) (ob':=.box (Off.w { o with cs:=o.cs ++ [x] })) rfl rfl rfl rfl (by decide) rfl) ?_
 exact cX _ rfl ⟨⟨rfl,rfl⟩,⟨rfl,rfl⟩,⟨rfl,rfl⟩,trivial⟩ h0
theorem aMS {o:Off} {x:Cs} (h:dV o=true) (h1:0<=x.i/\x.i<=1000) (h2:x.h.length<=10/\∀ n∈x.h,0<=n/\n<=1000):aG6 { o with cs:=o.cs ++ [x] }:=by
 have hd:=aCK h
 have hp:=eT h
 refine ⟨by simp only [aB,aG]; omega,fun y hy=>?_,hd.2.2.1,hd.2.2.2⟩
 rcases aQ.1 hy with hy|hy
 ·exact hd.2.1 y hy
 ·rw [aM.1 hy]
  exact ⟨h1.1,h1.2,h2⟩
theorem y3 (l:List Nat) (s:St):kK s (fun _:Unit=>⟨nW l s.e,s.o⟩):=gJ.x fun c C a w h=>⟨C,h.weak (mA l s.e)⟩
theorem aW7 {P:PG} {un:List Nat} {x y:MP} {R:List Nat} {s:St} {K:St->Prop} (hx:gB P un x R s K) (hy:gB P un y R s K):gB P un (.br x y) R s K:=aIw (P:=P) ▸ ⟨hx,hy⟩
theorem aY0 {P:PG} {un:List Nat} {i:Nat} {m:MOp} {k:MP} {R:List Nat} {s:St} {K:St->Prop} (h:∀ k',k'=k->fX P [m] s fun s'=>gB P un k' (aCs (xD s m) R) s' K):gB P un (.q i m k) R s K:=by rw [aLj]; exact h k rfl
theorem aXq {P:PG} {un:List Nat} {i:Nat} {m:MOp} {k:MP} {s:St} {K:St->Prop} (h:∀ k',k'=k->fX P [m] s fun s'=>gB P un k' [] s' K):gB P un (.e i m k) [] s K:=by rw [aHn]; exact h k rfl
theorem aW5 {P:PG} {un:List Nat} {i r:Nat} {m:MOp} {k:MP} {R:List Nat} {s:St} {K:St->Prop} (h:∀ k',k'=k->aCn P (un.contains i) un m k' (r :: R) s K):gB P un (.e i m k) (r :: R) s K:=by rw [aIc]; exact h k rfl
theorem aY8 {G:Prop} {P:PG} {un R:List Nat} {m:MP} {K:St->Prop} {α:Type} (S:α->St) (C:α->Prop) (a:Held (∀ k,k=m->∀ x,C x->gB P un k R (S x) K)->G) (b:∀ x,C x->gB P un m R (S x) K):G:=a ⟨fun _ h=>h ▸ b⟩
theorem aNq (code:List UInt8) (k:Nat) (seed:Int) (hc:code.length<=1048576) (hk:k<=999999000000):wQ prog 59 true (kO code k seed) []
  (fun x' rs=>∃ (o:Off) (k':Nat) (seed':Int),x'=kO code k' seed'/\rs=[o.s]/\k<=k'/\k'<=k + 3000/\aG6 o):=by
 refine gF aYr [[1,1,1,0,1,0,1,1,1,1,1,0,0,0,0,0],[1,1,1,0,1,0,1,1,1,0],[1,1,1,1,0],[1,1,1,1,1],[0]] ?_
 dsimp only [aYr,cY,dD]
 simp only [kO]
 refine fG _ (aGO false 0 none [0] (es:=1) (xs:=eK code) rfl rfl) fun cv=>?_
 simp only [eS,↓wA,↓wC,wB,cQ,cP,aU,aV,aW,reduceIte,reduceCtorEq,aA,aX,dJ]
 repeat' (first|(simp only [cM,↓wA,↓wC,wB,cQ,cP,aU,aV,aW,reduceIte,reduceCtorEq,aA,aX,dJ])|((first|apply cJ|apply cK|apply cI)<;>intro h<;>try simp only [h]))
 refine eC (fP code cv _ _ [0,0,100,19980] hc (by omega) (by simp) (by simp)) rfl rfl rfl (eD code cv rfl rfl) ?_
 rintro _ _ ⟨m,k1,s1,rfl,rfl,hk1,hk1',hmm⟩
 refine ⟨⟨rfl,rfl⟩,?_⟩
 have hm2:=oK (a:=0) (b:=20000) hmm (by decide)
 have hwV:∀ q:Off,q.w.isV=true:=fun _=>rfl
 have hwS:∀ q:Off,q.w.size=5:=fun _=>rfl
 have hwB:∀ q:Off,q.w.isStB=true:=fun _=>rfl
 have hst:∀ t:Stp,t.d.noOwn=true:=fun _=>rfl
 repeat' (first|(simp only [cM,aZM,hwV,hwS,↓wA,↓wC,wB,cQ,cP,aU,aV,aW,reduceIte,reduceCtorEq,aA,aX,dJ])|(refine cO (aHx m hm2.1 hm2.2) rfl rfl ?_)|((first|apply cJ|apply cK|apply cI)<;>intro h<;>try simp only [h]))
 refine eC (mU code cv k1 s1 30 hc (by omega)) rfl rfl rfl (eD code cv rfl rfl) ?_
 rintro _ _ ⟨n,k2,s2,rfl,rfl,hk2,hk2',hn,hn'⟩
 refine ⟨⟨rfl,rfl⟩,?_⟩
 repeat' (first|(simp only [cM,↓wA,↓wC,wB,cQ,cP,aU,aV,aW,reduceIte,reduceCtorEq,aA,aX,dJ])|((first|apply cJ|apply cK|apply cI)<;>intro h<;>try simp only [h]))
 refine eM (fun x:Off×Int×Nat×Int=>⟨[(0,.ptr 0 0 []),(2,.ptr 3 0 []),(3,.ptr 6 0 []),(5,.d (.int .i64 x.2.1))],[.box (pS cv x.2.2.1 x.2.2.2),.val (.sl false 1 (eK code)),.tag 1 cv,.box zO,.val (.sl true 1 (dl iD [0,0,100,19980])),.dead,.box x.1.w]⟩)
  (fun x=>dV x.1=true/\(0<=x.2.1/\x.2.1 < 30)/\k<=x.2.2.1/\(x.2.2.1:Int) + 40 * x.2.1<=k + 1300) (fun x=>x.2.1.toNat) (aTi m,n,k2,s2) (cX _ rfl ⟨⟨rfl,rfl⟩,⟨rfl,rfl⟩,⟨rfl,rfl⟩,⟨rfl,rfl⟩,trivial⟩) ⟨aR5 m hm2.1 hm2.2,by simp only; omega,by simp only; omega,by simp only; omega⟩ ?_
 rintro ⟨o,n,k3,s3⟩ ⟨i1,i2,i3,i4⟩
 simp only at i1 i2 i3 i4 ⊢
 cases h1:decide (0 < n) with
 | false =>
  have hn0:=of_decide_eq_false h1
  have hd:=aCK i1
  repeat' (first|(simp only [h1,cM,↓wA,↓wC,wB,cQ,cP,aU,aV,aW,reduceIte,reduceCtorEq,aA,aX,dJ])|((first|apply cJ|apply cK|apply cI)<;>intro h<;>try simp only [h]))
  refine eC (mU code cv k3 s3 32 hc (by omega)) rfl rfl rfl (eD code cv rfl rfl) ?_
  rintro _ _ ⟨p,k4,s4,rfl,rfl,hk4,hk4',hp,hp'⟩
  refine ⟨⟨rfl,rfl⟩,?_⟩
  apply aVG (fun x:Off×Nat×Int=>(⟨[(0,.ptr 0 0 []),(2,.ptr 3 0 []),(3,.ptr 6 0 [])],[.box (pS cv x.2.1 x.2.2),.val (.sl false 1 (eK code)),.tag 1 cv,.box zO,.val (.sl true 1 (dl iD [0,0,100,19980])),.dead,.box x.1.w]⟩:St)) (fun x=>aG6 x.1/\k<=x.2.1/\x.2.1<=k + 3000)
  case a =>
   intro rest
   cases q0:decide (p=0) with
   | true =>
    repeat' (first|(simp only [q0,cM,↓wA,↓wC,wB,cQ,cP,aU,aV,aW,reduceIte,reduceCtorEq,aA,aX,dJ])|((first|apply cJ|apply cK|apply cI)<;>intro h<;>try simp only [h]))
    refine eC (fP code cv _ _ [-1,0,20001] hc (by omega) (by simp) (by simp)) rfl rfl rfl (eD code cv rfl rfl) ?_
    rintro _ _ ⟨m0,k5,s5,rfl,rfl,hk5,hk5',hmm0⟩
    refine ⟨⟨rfl,rfl⟩,?_⟩
    repeat' (first|(simp only [aSD,aRF,aRA,D.size,cM,↓wA,↓wC,wB,cQ,cP,aU,aV,aW,reduceIte,reduceCtorEq,aA,aX,dJ])|((first|apply cJ|apply cK|apply cI)<;>intro h<;>try simp only [h]))
    refine dF (cX (s':=⟨[(0,.ptr 0 0 []),(2,.ptr 3 0 []),(3,.ptr 6 0 [])],[.box (pS cv k5 s5),.val (.sl false 1 (eK code)),.tag 1 cv,.box zO,.val (.sl true 1 (dl iD [0,0,100,19980])),.dead,.box (Off.w { o with day:=m0 })]⟩) _ rfl ⟨⟨rfl,rfl⟩,⟨rfl,rfl⟩,⟨rfl,rfl⟩,trivial⟩) ?_
    exact rest.out (({ o with day:=m0 }:Off),k5,s5) ⟨hd,by simp only; omega,by simp only; omega⟩
   | false =>
    cases q1:decide (p=1) with
    | true =>
     repeat' (first|(simp only [q0,q1,cM,↓wA,↓wC,wB,cQ,cP,aU,aV,aW,reduceIte,reduceCtorEq,aA,aX,dJ])|((first|apply cJ|apply cK|apply cI)<;>intro h<;>try simp only [h]))
     refine fG _ (f8 6 none [1] (es:=4) (xs:=dl Cs.s o.cs) rfl rfl) fun v=>?_
     simp only [eS,aQU,aC,aD,aV,List.set_cons_succ,List.set_cons_zero,aE,aF,qE,nY,gP,aS,aT]
     refine aYe (fun s=>∃ (o':Off) (k':Nat) (s':Int),aG6 o'/\k<=k'/\k'<=k + 3000/\gJ s ⟨[(0,.ptr 0 0 []),(2,.ptr 3 0 []),(3,.ptr 6 0 [])],[.box (pS cv k' s'),.val (.sl false 1 (eK code)),.tag 1 cv,.box zO,.val (.sl true 1 (dl iD [0,0,100,19980])),.dead,.box o'.w]⟩) ?_ ?_
     ·apply aY8 (fun x:(Int×Int×Int×Int)×Nat×Int=>(⟨[(41,.ptr 6 1 [1]),(3,.ptr 6 0 []),(53,.d (.int .i64 x.1.2.2.2)),(0,.ptr 0 0 []),(2,.ptr 3 0 []),(42,.own 7),(45,.d (.int .i64 x.1.1)),(47,.d (.int .i64 x.1.2.1)),(50,.d (.int .i64 x.1.2.2.1)),(51,.ptr 0 0 []),(52,.d (.sl false 1 (dl iD [0,1,10])))],[.box (pS cv x.2.1 x.2.2),.val (.sl false 1 (eK code)),.tag 1 cv,.box zO,.val (.sl true 1 (dl iD [0,0,100,19980])),.dead,.box (d5 o (.lnk 8 v) (.sl true 1 (dl D.str o.led))),.val (.sl true 4 (dl Cs.s o.cs)),.tag 7 v]⟩:St)) (fun x=>(0<=x.1.1/\x.1.1<=1000)/\(0<=x.1.2.2.2/\x.1.2.2.2<=1000)/\k<=x.2.1/\x.2.1<=k + 2900)
      case a =>
       intro rest
       repeat' (first
        |(with_reducible refine aW7 ?_ ?_)
        |(with_reducible refine aY0 fun k hk=>?_)
        |(with_reducible refine aXq fun k hk=>?_)
        |(with_reducible refine aW5 fun k hk=>?_)
        |(simp only [aIE,aHv,aHA,D.size,c8,cM,↓wA,↓wC,wB,cQ,cP,aU,aV,aW,reduceIte,reduceCtorEq,aA,aX,dJ])
        |(with_reducible refine aP ?_ ?_)
        |((with_reducible show kX prog _ _ [.t 43,.t 44] _ _); refine qW _ (y3 [0,2,3,41,42,43,44,45,46,47,48,49,50,51,52,53] _) (fun _=>?_); simp only [↓wA,↓wC,wB,cQ,cP,aU,aV,aW,reduceIte,reduceCtorEq,aA,aX,dJ]; refine eC (fP code cv _ _ [0,1,999] hc (by omega) (by simp) (by simp)) rfl rfl rfl (eD code cv rfl rfl) ?_; rintro _ _ ⟨a1,u1,z1,rfl,rfl,hu1,hu1',ha1⟩; refine ⟨⟨rfl,rfl⟩,?_⟩)
        |((with_reducible show kX prog _ _ [.t 46,.k (.d (.int .i64 5))] _ _); refine qW _ (y3 [0,2,3,41,42,43,44,45,46,47,48,49,50,51,52,53] _) (fun _=>?_); simp only [↓wA,↓wC,wB,cQ,cP,aU,aV,aW,reduceIte,reduceCtorEq,aA,aX,dJ]; refine eC (mU code cv _ _ 5 hc (by omega)) rfl rfl rfl (eD code cv rfl rfl) ?_; rintro _ _ ⟨a2,u2,z2,rfl,rfl,hu2,hu2',ha2,ha2'⟩; refine ⟨⟨rfl,rfl⟩,?_⟩)
        |((with_reducible show kX prog _ _ [.t 48,.t 49] _ _); refine qW _ (y3 [0,2,3,41,42,43,44,45,46,47,48,49,50,51,52,53] _) (fun _=>?_); simp only [↓wA,↓wC,wB,cQ,cP,aU,aV,aW,reduceIte,reduceCtorEq,aA,aX,dJ]; refine eC (fP code cv _ _ [0,20001] hc (by omega) (by simp) (by simp)) rfl rfl rfl (eD code cv rfl rfl) ?_; rintro _ _ ⟨a3,u3,z3,rfl,rfl,hu3,hu3',ha3⟩; refine ⟨⟨rfl,rfl⟩,?_⟩)
        |((with_reducible show kX prog _ _ [.t 51,.t 52] _ _); (first|(refine fK 9 ?_; simp only [m8,lA,kD,D.unown,↓wA,↓wC,wB,cQ,cP,aU,aV,aW,reduceIte,reduceCtorEq,aA,aX,dJ]; refine qW _ (cX (s':=⟨[(0,.ptr 0 0 []),(2,.ptr 3 0 []),(42,.own 7),(45,.d (.int .i64 a1)),(47,.d (.int .i64 a2)),(50,.d (.int .i64 a3)),(51,.ptr 0 0 []),(52,.d (.sl false 1 (dl iD [0,1,10])))],[.box (pS cv u3 z3),.val (.sl false 1 (eK code)),.tag 1 cv,.box zO,.val (.sl true 1 (dl iD [0,0,100,19980])),.dead,.dead,.val (.sl true 4 (dl Cs.s o.cs)),.tag 7 v]⟩) _ rfl ⟨⟨rfl,rfl⟩,⟨rfl,rfl⟩,⟨rfl,rfl⟩,⟨rfl,rfl⟩,⟨rfl,rfl⟩,⟨rfl,rfl⟩,⟨rfl,rfl⟩,⟨rfl,rfl⟩,trivial⟩).x (fun _=>?_))|(refine fK 10 ?_; simp only [m8,lA,kD,D.unown,↓wA,↓wC,wB,cQ,cP,aU,aV,aW,reduceIte,reduceCtorEq,aA,aX,dJ]; refine qW _ (cX (s':=⟨[(0,.ptr 0 0 []),(2,.ptr 3 0 []),(42,.own 7),(45,.d (.int .i64 a1)),(47,.d (.int .i64 a2)),(50,.d (.int .i64 a3)),(51,.ptr 0 0 []),(52,.d (.sl false 1 (dl iD [0,1,10])))],[.box (pS cv u3 z3),.val (.sl false 1 (eK code)),.tag 1 cv,.box zO,.val (.sl true 1 (dl iD [0,0,100,19980])),.dead,.dead,.val (.sl true 4 (dl Cs.s o.cs)),.tag 7 v]⟩) _ rfl ⟨⟨rfl,rfl⟩,⟨rfl,rfl⟩,⟨rfl,rfl⟩,⟨rfl,rfl⟩,⟨rfl,rfl⟩,⟨rfl,rfl⟩,⟨rfl,rfl⟩,⟨rfl,rfl⟩,trivial⟩).x (fun _=>?_))|(refine fK 11 ?_; simp only [m8,lA,kD,D.unown,↓wA,↓wC,wB,cQ,cP,aU,aV,aW,reduceIte,reduceCtorEq,aA,aX,dJ]; refine qW _ (cX (s':=⟨[(0,.ptr 0 0 []),(2,.ptr 3 0 []),(42,.own 7),(45,.d (.int .i64 a1)),(47,.d (.int .i64 a2)),(50,.d (.int .i64 a3)),(51,.ptr 0 0 []),(52,.d (.sl false 1 (dl iD [0,1,10])))],[.box (pS cv u3 z3),.val (.sl false 1 (eK code)),.tag 1 cv,.box zO,.val (.sl true 1 (dl iD [0,0,100,19980])),.dead,.dead,.val (.sl true 4 (dl Cs.s o.cs)),.tag 7 v]⟩) _ rfl ⟨⟨rfl,rfl⟩,⟨rfl,rfl⟩,⟨rfl,rfl⟩,⟨rfl,rfl⟩,⟨rfl,rfl⟩,⟨rfl,rfl⟩,⟨rfl,rfl⟩,⟨rfl,rfl⟩,trivial⟩).x (fun _=>?_))); simp only [↓wA,↓wC,wB,cQ,cP,aU,aV,aW,reduceIte,reduceCtorEq,aA,aX,dJ]; refine eC (fP code cv _ _ [0,1,10] hc (by omega) (by simp) (by simp)) rfl rfl rfl (eD code cv rfl rfl) ?_; rintro _ _ ⟨a4,u4,z4,rfl,rfl,hu4,hu4',ha4⟩; refine ⟨⟨rfl,rfl⟩,?_⟩)
        |(exact rest.out _ ‹_› ((a1,a2,a3,a4),u4,z4) ⟨oK (a:=0) (b:=1000) ha1 (by decide),oK (a:=0) (b:=1000) ha4 (by decide),by simp only; omega,by simp only; omega⟩)
        |(with_reducible show gB _ _ _ _ _ _; subst hk))
      case b =>
       rintro ⟨⟨a1,a2,a3,a4⟩,u4,z4⟩ ⟨b1,b4,hu4,hu4'⟩
       simp only at b1 b4 hu4 hu4' ⊢
       have hcl:(o.cs.length:Int)<=10:=by have:=hd.1; omega
       repeat' (first|(simp only [aIE,aHv,aHA,D.size,c8,cU,cM,↓wA,↓wC,wB,cQ,cP,aU,aV,aW,reduceIte,reduceCtorEq,aA,aX,dJ])|(with_reducible refine aP ?_ ?_)|(with_reducible refine cW ?_ ?_; focus (intro h; cases h))|(with_reducible refine cW ?_ ?_; focus omega)|((first|apply cJ|apply cK|apply cI)<;>intro h<;>try simp only [h]))
       have h2:aG6 { o with cs:=o.cs ++ [⟨a1,a2,a3,[a4]⟩] }:=aMS i1 b1 ⟨by simp,fun n hn=>by rw [aM.1 hn]; exact b4⟩
       refine cW (fun h=>by cases h) (cW ⟨by omega,by omega⟩ ⟨_,u4,z4,h2,by omega,by omega,?_⟩)
       exact aMs (x:=⟨a1,a2,a3,[a4]⟩) (e:=[]) rfl rfl
     ·rintro s ⟨o',k',s',hd',hk',hk'',hw⟩
      refine ⟨_,hw,?_⟩
      refine dF (cX (s':=⟨[(0,.ptr 0 0 []),(2,.ptr 3 0 []),(3,.ptr 6 0 [])],[.box (pS cv k' s'),.val (.sl false 1 (eK code)),.tag 1 cv,.box zO,.val (.sl true 1 (dl iD [0,0,100,19980])),.dead,.box o'.w]⟩) _ rfl ⟨⟨rfl,rfl⟩,⟨rfl,rfl⟩,⟨rfl,rfl⟩,trivial⟩) ?_
      exact rest.out (o',k',s') ⟨hd',hk',hk''⟩
    | false =>
     cases q2:decide (p=2) with
     | true =>
      repeat' (first|(simp only [q0,q1,q2,cM,↓wA,↓wC,wB,cQ,cP,aU,aV,aW,reduceIte,reduceCtorEq,aA,aX,dJ])|((first|apply cJ|apply cK|apply cI)<;>intro h<;>try simp only [h]))
      obtain ⟨_,_,_,_,_,_,_,hl8,hs8,_⟩:=eT i1
      refine eM (fun x:List (List UInt8)×Nat×Int=>⟨[(0,.ptr 0 0 []),(2,.ptr 3 0 []),(3,.ptr 6 0 [])],[.box (pS cv x.2.1 x.2.2),.val (.sl false 1 (eK code)),.tag 1 cv,.box zO,.val (.sl true 1 (dl iD [0,0,100,19980])),.dead,.box (Off.w { o with led:=x.1 })]⟩)
       (fun x=>x.1.length<=12/\(∀ s∈x.1,s.length<=1000)/\k4<=x.2.1/\(x.2.1:Int) + 2 * (20 - x.1.length)<=k4 + 100) (fun x=>100 - x.1.length) (o.led,k4,s4) (cX _ rfl ⟨⟨rfl,rfl⟩,⟨rfl,rfl⟩,⟨rfl,rfl⟩,trivial⟩) ⟨by simp only; omega,fun s hs=>by have:=hs8 s hs; omega,by simp only; omega,by simp only; omega⟩ ?_
      rintro ⟨L,k5,s5⟩ ⟨j1,j2,j3,j4⟩
      simp only at j1 j2 j3 j4 ⊢
      refine fG _ (f8 6 none [4] (es:=1) (xs:=dl D.str L) rfl rfl) fun v=>?_
      simp only [eS,aR1,↓wA,↓wC,wB,cQ,cP,aU,aV,aW,reduceIte,reduceCtorEq,aA,aX,dJ]
      repeat' (first|(simp only [aNY,aPJ,aP4,cU,D.size,cZ,cM,↓wA,↓wC,wB,cQ,cP,aU,aV,aW,reduceIte,reduceCtorEq,aA,aX,dJ])|(with_reducible refine aP ?_ ?_)|(refine eC (mU code cv _ _ 2 hc (by omega)) rfl rfl rfl (eD code cv rfl rfl) ?_; rintro _ _ ⟨a2,u2,z2,rfl,rfl,hu2,hu2',ha2,ha2'⟩; refine ⟨⟨rfl,rfl⟩,?_⟩)|(refine dN ?_)|(with_reducible refine cW ?_ ?_; focus (intro h; cases h))|(with_reducible refine cW ?_ ?_; focus (simp only [aC,aD]; omega))|(with_reducible refine cV ?_ ?_; focus (simp only [eA]; omega))|((first|apply cJ|apply cK|apply cI)<;>intro h<;>try simp only [h]))
      ·have hl8':=of_decide_eq_true h
       have happ:(dl D.str L).app (D.cons (D.str [114,49,32,100,53]) .nil)=dl D.str (L ++ [[114,49,32,100,53]]):=iT (f:=D.str) L _
       rw [happ]
       refine cW (fun h=>by cases h) (cW ⟨by omega,by omega⟩ ⟨(L ++ [[114,49,32,100,53]],u2,z2),(cX _ rfl ⟨⟨rfl,rfl⟩,⟨rfl,rfl⟩,⟨rfl,rfl⟩,trivial⟩),⟨by simp only [aB,aG]; omega,fun s hs=>?_,by simp only; omega,by simp only [aB,aG]; omega⟩,by simp only [aB,aG]; omega⟩)
       rcases aQ.1 hs with hs|hs
       ·exact j2 s hs
       ·rw [aM.1 hs]; decide
      ·refine dF ((i7 6 8 7 none [4] (ow:=true) (es:=1) (xs:=dl D.str L) (ob':=.box (Off.w { o with led:=L })) rfl rfl rfl rfl (by decide) rfl).trans (cX (s':=⟨[(0,.ptr 0 0 []),(2,.ptr 3 0 []),(3,.ptr 6 0 [])],[.box (pS cv u2 z2),.val (.sl false 1 (eK code)),.tag 1 cv,.box zO,.val (.sl true 1 (dl iD [0,0,100,19980])),.dead,.box (Off.w { o with led:=L })]⟩) _ rfl ⟨⟨rfl,rfl⟩,⟨rfl,rfl⟩,⟨rfl,rfl⟩,trivial⟩)) ?_
       exact rest.out (({ o with led:=L }:Off),u2,z2) ⟨⟨hd.1,hd.2.1,by simp only; omega,j2⟩,by simp only; omega,by simp only; omega⟩
     | false =>
      cases q3:decide (p=3) with
      | true =>
       repeat' (first|(simp only [q0,q1,q2,q3,cM,↓wA,↓wC,wB,cQ,cP,aU,aV,aW,reduceIte,reduceCtorEq,aA,aX,dJ])|((first|apply cJ|apply cK|apply cI)<;>intro h<;>try simp only [h]))
       refine eC (fP code cv _ _ [-1,999,1000] hc (by omega) (by simp) (by simp)) rfl rfl rfl (eD code cv rfl rfl) ?_
       rintro _ _ ⟨m0,k5,s5,rfl,rfl,hk5,hk5',hmm0⟩
       refine ⟨⟨rfl,rfl⟩,?_⟩
       repeat' (first|(simp only [aRM,aSr,aSj,D.size,cM,↓wA,↓wC,wB,cQ,cP,aU,aV,aW,reduceIte,reduceCtorEq,aA,aX,dJ])|((first|apply cJ|apply cK|apply cI)<;>intro h<;>try simp only [h]))
       refine dF (cX (s':=⟨[(0,.ptr 0 0 []),(2,.ptr 3 0 []),(3,.ptr 6 0 [])],[.box (pS cv k5 s5),.val (.sl false 1 (eK code)),.tag 1 cv,.box zO,.val (.sl true 1 (dl iD [0,0,100,19980])),.dead,.box (Off.w { o with kept:=m0 })]⟩) _ rfl ⟨⟨rfl,rfl⟩,⟨rfl,rfl⟩,⟨rfl,rfl⟩,trivial⟩) ?_
       exact rest.out (({ o with kept:=m0 }:Off),k5,s5) ⟨hd,by simp only; omega,by simp only; omega⟩
      | false =>
       repeat' (first|(simp only [q0,q1,q2,q3,cM,↓wA,↓wC,wB,cQ,cP,aU,aV,aW,reduceIte,reduceCtorEq,aA,aX,dJ])|((first|apply cJ|apply cK|apply cI)<;>intro h<;>try simp only [h]))
       refine dF (cX (s':=⟨[(0,.ptr 0 0 []),(2,.ptr 3 0 []),(3,.ptr 6 0 [])],[.box (pS cv k4 s4),.val (.sl false 1 (eK code)),.tag 1 cv,.box zO,.val (.sl true 1 (dl iD [0,0,100,19980])),.dead,.box o.w]⟩) _ rfl ⟨⟨rfl,rfl⟩,⟨rfl,rfl⟩,⟨rfl,rfl⟩,trivial⟩) ?_
       exact rest.out (o,k4,s4) ⟨hd,by simp only; omega,by simp only; omega⟩
  case b =>
   rintro ⟨o',k',s'⟩ ⟨hd',hk',hk''⟩
   simp only at hd' hk' hk'' ⊢
   repeat' (first|(simp only [cM,hst,hwB,hwS,hwV,aZM,↓wA,↓wC,wB,cQ,cP,aU,aV,aW,reduceIte,reduceCtorEq,aA,aX,dJ])|((first|apply cJ|apply cK|apply cI)<;>intro h<;>try simp only [h]))
   refine eY _ rfl (cW rfl (cW rfl ?_))
   refine dF ((i7 0 2 1 none [0] (ob':=.box (.st (.cons (.sl false 1 (eK code)) (.cons (.int .i64 k') (.cons (.int .u64 s') .nil))))) rfl rfl rfl rfl (by decide) rfl).trans (freeze 3 none [] (x:=o'.w) (ob':=.box o'.s) rfl rfl (by simp only [eS,aZJ]; rfl))) ?_
   simp only [↓wA,↓wC,wB,cQ,cP,aU,aV,aW,reduceIte,reduceCtorEq,aA,aX,dJ]
   exact cW rfl (eY _ rfl ⟨o',k',s',rfl,rfl,by omega,by omega,hd'⟩)
 | true =>
  have h1':=of_decide_eq_true h1
  repeat' (first|(simp only [h1,cM,hst,hwB,hwS,hwV,aZM,↓wA,↓wC,wB,cQ,cP,aU,aV,aW,reduceIte,reduceCtorEq,aA,aX,dJ])|(refine dN ?_)|(with_reducible refine aP ?_ ?_)|(refine eC (w9 code cv k3 s3 o hc (by omega) (aCK i1)) rfl (aVg rfl) rfl (eD code cv rfl rfl) ?_; rintro _ _ ⟨t,k4,s4,rfl,rfl,hk4,hk4',ht⟩; refine ⟨⟨rfl,rfl⟩,?_⟩)|((first|apply cJ|apply cK|apply cI)<;>intro h<;>try simp only [h]))
  all_goals
   cases hb:pT o t.k t.i t.a t.v with
   | false =>
    have hF:=aPH (fI i1) hb
    repeat' (first|(simp only [cM,hst,hwB,hwS,hwV,aZM,↓wA,↓wC,wB,cQ,cP,aU,aV,aW,reduceIte,reduceCtorEq,aA,aX,dJ])|(refine cO hF (aVh rfl) rfl ?_)|((first|apply cJ|apply cK|apply cI)<;>intro h<;>try simp only [h]))
    refine cV (by simp only [eA]; omega) ?_
    exact ⟨(o,n - 1,k4,s4),(cX _ rfl ⟨⟨rfl,rfl⟩,⟨rfl,rfl⟩,⟨rfl,rfl⟩,⟨rfl,rfl⟩,trivial⟩),⟨i1,by simp only; omega,by simp only; omega,by simp only; omega⟩,by simp only; omega⟩
   | true =>
    obtain ⟨q,hq,hF⟩:=aON (fI i1) hb
    repeat' (first|(simp only [cM,hst,hwB,hwS,hwV,aZM,vwE,vwS,↓wA,↓wC,wB,cQ,cP,aU,aV,aW,reduceIte,reduceCtorEq,aA,aX,dJ])|(with_reducible refine cO hF rfl rfl ?_)|(refine qW _ (aQY o 3 rfl rfl).x (fun _=>?_))|((first|apply cJ|apply cK|apply cI)<;>intro h<;>try simp only [h]))
    refine eY _ rfl (cW rfl (cW rfl (cV (by simp only [eA]; omega) ?_)))
    exact ⟨(q,n - 1,k4,s4),(cX _ rfl ⟨⟨rfl,rfl⟩,⟨rfl,rfl⟩,⟨rfl,rfl⟩,⟨rfl,rfl⟩,trivial⟩),⟨hq,by simp only; omega,by simp only; omega,by simp only; omega⟩,by simp only; omega⟩
end Go.Pe.Tryz
set_option maxHeartbeats 2000000
namespace Go.Pe.Tryz
open Go.Proofs.Tryz
end Go.Pe.Tryz
set_option maxHeartbeats 8000000
namespace Go.Pe.Tryz
open Go.Proofs.Tryz Go.Sort
def aG4 (x:Con):Prop:=aG6 x.o/\x.d.length + x.p.length<=100000
theorem rX {x:Con} (h:aG4 x):x.ok0:=⟨aP6 h.1,by have:=h.2; omega⟩
theorem aJh {x:Con} (h:aG4 x) (l:List UInt8):aG4 (jO x l).1:=by
 rcases aBU x l with ⟨e,_⟩|⟨hv,h60,hr,hoq,hd1,hp1,hk1⟩
 ·rw [e]; exact h
 ·obtain ⟨g1,_⟩:=aC0 hv h60 hr hoq hd1 hp1 hk1
  simp only [gO,aN] at g1
  have hs:(jO x l).1.d.length + (jO x l).1.p.length<=30000:=t8 g1.2
  exact ⟨aCK hoq,by omega⟩
def nn (n:Int):Int:=if n < 0 then 0 else n
theorem aPq (n:Int):Fn prog 64 [.int .i64 0,.int .i64 n] (fun rs=>rs=[.int .i64 (nn n)]):=aNc 0 n
theorem aJ3 (n:Int) (h:n<=100000):Fn prog 49 [.int .i64 (nn n)] (fun rs=>rs=[.str (Lib.itoa (nn n))]):=eW (nn n) (by unfold nn; split<;>omega) (by unfold nn; simp only [eA]; split<;>omega)
theorem aJy (n:Int) (h:n<=100000):(Lib.itoa (nn n)).length<=21:=eJ (nn n) (by unfold nn; simp only [eA]; split<;>omega)
theorem aWv {t:Stp}:fJ [1] t.d=1:=rfl
theorem aVc {t:Stp}:fJ [2] t.d=2:=rfl
theorem aVl {t:Stp}:fJ [3] t.d=3:=rfl
theorem aOe {t:Stp}:fJ [0] t.d=0:=rfl
theorem aOD {t:Stp}:gC [0] t.d=some (.int .i64 t.k):=rfl
theorem aWm {t:Stp}:gC [1] t.d=some (.int .i64 t.i):=rfl
theorem aWs {t:Stp}:gC [2] t.d=some (.int .i64 t.a):=rfl
theorem aWk {t:Stp}:gC [3] t.d=some (.int .i64 t.v):=rfl
theorem rE (code:List UInt8) (k:Nat) (seed:Int) (x:Con) (hc:code.length<=1048576) (hk:k<=999999990000) (hd:aG4 x):wQ prog 31 true (kO code k seed) [x.s]
  (fun x' rs=>∃ (t:List UInt8) (k':Nat) (seed':Int),x'=kO code k' seed'/\rs=[.str t]/\k<=k'/\k'<=k + 60/\t.length<=200):=by
 have hst:∀ t:Stp,t.d.noOwn=true:=fun _=>rfl
 refine gF aWZ [[1,1,0],[0]] ?_
 dsimp only [aWZ,cY,dD]
 simp only [kO]
 refine fG _ (aGO false 0 none [0] (es:=1) (xs:=eK code) rfl rfl) fun cv=>?_
 simp only [eS,↓wA,↓wC,wB,cQ,cP,aU,aV,aW,reduceIte,reduceCtorEq,aA,aX]
 repeat' (first|(simp only [aZy,aZz,aZA,gA,sH,vQ,aZw,aZx,aZB,↓dK,cM,↓wA,↓wC,wB,cQ,cP,aU,aV,aW,reduceIte,reduceCtorEq,aA,aX])|((first|apply cJ|apply cK|apply cI)<;>intro h<;>try simp only [h]))
 refine eC (w9 code cv k seed x.o hc (by omega) hd.1) rfl rfl rfl (eD code cv rfl rfl) ?_
 rintro _ _ ⟨t,k1,s1,rfl,rfl,hk1,hk1',ht⟩
 refine ⟨⟨rfl,rfl⟩,?_⟩
 repeat' (first|(simp only [hst,aZZ,aZW,cM,↓wA,↓wC,wB,cQ,cP,aU,aV,aW,reduceIte,reduceCtorEq,aA,aX])|((first|apply cJ|apply cK|apply cI)<;>intro h<;>try simp only [h]))
 refine dF ((i7 0 2 1 none [0] (ob':=.box (kO code k1 s1)) rfl rfl rfl rfl (by decide) rfl).trans (cX (s':=⟨[(0,.ptr 0 0 []),(5,.ptr 4 0 [])],[.box (kO code k1 s1),.dead,.tag 1 cv,.box x.s,.box t.d]⟩) _ rfl ⟨⟨rfl,rfl⟩,⟨rfl,rfl⟩,trivial⟩)) ?_
 obtain ⟨⟨b1,b2⟩,⟨b3,b4⟩,⟨b5,b6⟩,b7,b8⟩:=ht
 have n1:=aJ3 t.i (by omega)
 have n2:=aJ3 t.a (by omega)
 have n3:=aJ3 t.v (by omega)
 have l1:=aJy t.i (by omega)
 have l2:=aJy t.a (by omega)
 have l3:=aJy t.v (by omega)
 have m1:=aPq t.i
 have m2:=aPq t.a
 have m3:=aPq t.v
 repeat' (first|(simp only [aWv,aWm,aVc,aWs,aVl,aWk,aOe,aOD,cM,↓wA,↓wC,wB,cQ,cP,aU,aV,aW,reduceIte,reduceCtorEq,aA,aX])|(refine cR m1 rfl rfl ?_)|(refine cR m2 rfl rfl ?_)|(refine cR m3 rfl rfl ?_)|(refine cR n1 rfl rfl ?_)|(refine cR n2 rfl rfl ?_)|(refine cR n3 rfl rfl ?_)|((first|apply cJ|apply cK|apply cI)<;>intro h<;>try simp only [h]))
 clear n1 n2 n3 m1 m2 m3
 generalize Lib.itoa (nn t.i)=n at l1 ⊢
 generalize Lib.itoa (nn t.a)=a at l2 ⊢
 generalize Lib.itoa (nn t.v)=v at l3 ⊢
 refine dM (kW code k1 s1 6 hc (by omega)) rfl rfl rfl ?_
 rintro _ _ ⟨p,k2,s2,rfl,rfl,hk2,hk2',hp,hp'⟩
 repeat' (first|(simp only [aOe,aOD,cM,↓wA,↓wC,wB,cQ,cP,aU,aV,aW,reduceIte,reduceCtorEq,aA,aX])|(with_reducible refine cW ?_ ?_; focus ((try simp only [aB,aC,aD]); omega))|((first|apply cJ|apply cK|apply cI)<;>intro h<;>try simp only [h]))
 all_goals try exact ⟨_,k2,s2,rfl,rfl,by omega,by omega,by simp only [aB,aC,aD]; omega⟩
 all_goals
  refine fK 5 ?_
  simp only [m8,lA,kD,D.unown,↓wA,↓wC,wB,cQ,cP,aU,aV,aW,reduceIte,reduceCtorEq,aA,aX]
  refine dM (aHw code k2 s2 _ 100 hc (by omega) (by first|rfl|(simp [aAd]; omega)) (by simp [D.len])) rfl rfl rfl ?_
  rintro _ _ ⟨w,k3,s3,rfl,rfl,hk3,hk3',hw⟩
  repeat' (first|(simp only [cM,↓wA,↓wC,wB,cQ,cP,aU,aV,aW,reduceIte,reduceCtorEq,aA,aX])|((first|apply cJ|apply cK|apply cI)<;>intro h<;>try simp only [h]))
  exact ⟨_,k3,s3,rfl,rfl,by omega,by omega,by omega⟩
end Go.Pe.Tryz
namespace Go.Pe.Tryz
open Go.Proofs.Tryz Go.Sort
theorem aBy {x:Con} {d p:List UInt8} {c:Int}:j8 [1] x.s (eQ d p c)=Con.s { x with d:=d,p:=p,c:=c }:=rfl
theorem aEr (code:List UInt8) (k:Nat) (seed:Int) (hc:code.length<=1048576) (hk:k<=999990000000):wQ prog 27 true (kO code k seed) []
  (fun x' rs=>∃ (x:Con) (k':Nat) (seed':Int),x'=kO code k' seed'/\rs=[x.s]/\k<=k'/\k'<=k + 5000/\aG4 x):=by
 refine gF aWS [] ?_
 dsimp only [aWS,cY,dD]
 repeat' (first|(simp only [cM,↓wA,↓wC,wB,cQ,cP,aU,aV,aW,reduceIte,reduceCtorEq,aA,aX,eL])|((first|apply cJ|apply cK|apply cI)<;>intro h<;>try simp only [h]))
 refine dM (aNq code k seed hc (by omega)) rfl rfl rfl ?_
 rintro _ _ ⟨o,k1,s1,rfl,rfl,hk1,hk1',hd⟩
 repeat' (first|(simp only [aZw,aZx,aZB,cM,↓wA,↓wC,wB,cQ,cP,aU,aV,aW,reduceIte,reduceCtorEq,aA,aX,eL])|((first|apply cJ|apply cK|apply cI)<;>intro h<;>try simp only [h]))
 refine dM (kW code k1 s1 7 hc (by omega)) rfl rfl rfl ?_
 rintro _ _ ⟨n0,k2,s2,rfl,rfl,hk2,hk2',hn0,hn0'⟩
 repeat' (first|(simp only [cM,↓wA,↓wC,wB,cQ,cP,aU,aV,aW,reduceIte,reduceCtorEq,aA,aX,eL])|((first|apply cJ|apply cK|apply cI)<;>intro h<;>try simp only [h]))
 refine eM (fun y:Con×Int×Nat×Int=>⟨[(0,.ptr 0 0 []),(2,.ptr 1 0 []),(3,.ptr 2 0 []),(4,.d (.int .i64 y.2.1))],[.box (kO code y.2.2.1 y.2.2.2),.box aEe,.box y.1.s]⟩)
  (fun y=>aG4 y.1/\(0<=y.2.1/\y.2.1 < 7)/\k<=y.2.2.1/\(y.2.2.1:Int) + 70 * y.2.1<=k + 4000) (fun y=>y.2.1.toNat) (⟨o,[],[],0⟩,n0,k2,s2) (cX _ rfl ⟨⟨rfl,rfl⟩,⟨rfl,rfl⟩,⟨rfl,rfl⟩,⟨rfl,rfl⟩,trivial⟩) ⟨⟨hd,by simp⟩,by simp only; omega,by simp only; omega,by simp only; omega⟩ ?_
 rintro ⟨x,n,k3,s3⟩ ⟨i1,i2,i3,i4⟩
 simp only at i1 i2 i3 i4 ⊢
 have hG:=q9 x (rX i1)
 cases h1:decide (0 < n) with
 | false =>
  have hn0:=of_decide_eq_false h1
  repeat' (first|(simp only [h1,cM,↓wA,↓wC,wB,cQ,cP,aU,aV,aW,reduceIte,reduceCtorEq,aA,aX,eL])|((first|apply cJ|apply cK|apply cI)<;>intro h<;>try simp only [h]))
  refine dM (aAf code k3 s3 24 hc (by omega)) rfl rfl rfl ?_
  rintro _ _ ⟨b,k4,s4,rfl,rfl,hk4,hk4'⟩
  cases b with
  | false =>
   repeat' (first|(simp only [aZy,aZz,aZA,↓dY,cM,↓wA,↓wC,wB,cQ,cP,aU,aV,aW,reduceIte,reduceCtorEq,aA,aX,eL])|((first|apply cJ|apply cK|apply cI)<;>intro h<;>try simp only [h]))
   refine cW rfl (cW rfl (eY _ rfl ?_))
   exact ⟨x,k4,s4,rfl,rfl,by omega,by omega,i1⟩
  | true =>
   repeat' (first|(simp only [cM,↓wA,↓wC,wB,cQ,cP,aU,aV,aW,reduceIte,reduceCtorEq,aA,aX,eL])|((first|apply cJ|apply cK|apply cI)<;>intro h<;>try simp only [h]))
   refine dM (aFU code k4 s4 hc (by omega)) rfl rfl rfl ?_
   rintro _ _ ⟨d,p,c,k5,s5,rfl,rfl,hk5,hk5',hl,hc0,hc1⟩
   repeat' (first|(simp only [eI,fC,fQ,jU,j5,aBy,aZy,aZz,aZA,↓dY,cM,↓wA,↓wC,wB,cQ,cP,aU,aV,aW,reduceIte,reduceCtorEq,aA,aX,eL])|((first|apply cJ|apply cK|apply cI)<;>intro h<;>try simp only [h]))
   refine cW rfl (cW rfl (eY _ rfl ?_))
   exact ⟨{ x with d:=d,p:=p,c:=c },k5,s5,rfl,rfl,by omega,by omega,⟨i1.1,by show d.length + p.length<=100000; omega⟩⟩
 | true =>
  have h1':=of_decide_eq_true h1
  cases hv:gO x with
  | false =>
   rw [hv] at hG
   repeat' (first|(simp only [h1,aZy,aZz,aZA,↓dY,cM,↓wA,↓wC,wB,cQ,cP,aU,aV,aW,reduceIte,reduceCtorEq,aA,aX,eL])|(refine cO (hG) rfl rfl ?_)|(refine cR (hG) rfl rfl ?_)|((first|apply cJ|apply cK|apply cI)<;>intro h<;>try simp only [h]))
   refine dM (aAf code k3 s3 24 hc (by omega)) rfl rfl rfl ?_
   rintro _ _ ⟨b,k4,s4,rfl,rfl,hk4,hk4'⟩
   cases b with
   | false =>
    repeat' (first|(simp only [aZy,aZz,aZA,↓dY,cM,↓wA,↓wC,wB,cQ,cP,aU,aV,aW,reduceIte,reduceCtorEq,aA,aX,eL])|((first|apply cJ|apply cK|apply cI)<;>intro h<;>try simp only [h]))
    refine cW rfl (cW rfl (eY _ rfl ?_))
    exact ⟨x,k4,s4,rfl,rfl,by omega,by omega,i1⟩
   | true =>
    repeat' (first|(simp only [cM,↓wA,↓wC,wB,cQ,cP,aU,aV,aW,reduceIte,reduceCtorEq,aA,aX,eL])|((first|apply cJ|apply cK|apply cI)<;>intro h<;>try simp only [h]))
    refine dM (aFU code k4 s4 hc (by omega)) rfl rfl rfl ?_
    rintro _ _ ⟨d,p,c,k5,s5,rfl,rfl,hk5,hk5',hl,hc0,hc1⟩
    repeat' (first|(simp only [eI,fC,fQ,jU,j5,aBy,aZy,aZz,aZA,↓dY,cM,↓wA,↓wC,wB,cQ,cP,aU,aV,aW,reduceIte,reduceCtorEq,aA,aX,eL])|((first|apply cJ|apply cK|apply cI)<;>intro h<;>try simp only [h]))
    refine cW rfl (cW rfl (eY _ rfl ?_))
    exact ⟨{ x with d:=d,p:=p,c:=c },k5,s5,rfl,rfl,by omega,by omega,⟨i1.1,by show d.length + p.length<=100000; omega⟩⟩
  | true =>
   rw [hv] at hG
   repeat' (first|(simp only [h1,aZy,aZz,aZA,↓dY,cM,↓wA,↓wC,wB,cQ,cP,aU,aV,aW,reduceIte,reduceCtorEq,aA,aX,eL])|(refine cO (hG) rfl rfl ?_)|(refine cR (hG) rfl rfl ?_)|(refine dN ?_)|(with_reducible refine aP ?_ ?_)|(refine dM (rE code k3 s3 x hc (by omega) i1) rfl rfl rfl ?_; rintro _ _ ⟨t,k4,s4,rfl,rfl,hk4,hk4',ht⟩)|((first|apply cJ|apply cK|apply cI)<;>intro h<;>try simp only [h]))
   all_goals
    have hE:=pY x t (rX i1) (by omega)
    have hdq:=aJh i1 t
    generalize (jO x t).1=q at hE hdq
    generalize (jO x t).2=w at hE
    repeat' (first|(simp only [aZy,aZz,aZA,↓dY,cM,↓wA,↓wC,wB,cQ,cP,aU,aV,aW,reduceIte,reduceCtorEq,aA,aX,eL])|(refine cO hE rfl rfl ?_)|(with_reducible refine cV ?_ ?_; focus (simp only [eA]; omega))|((first|apply cJ|apply cK|apply cI)<;>intro h<;>try simp only [h]))
    exact ⟨(q,n - 1,k4,s4),(cX _ rfl ⟨⟨rfl,rfl⟩,⟨rfl,rfl⟩,⟨rfl,rfl⟩,⟨rfl,rfl⟩,trivial⟩),⟨hdq,by simp only; omega,by simp only; omega,by simp only; omega⟩,by simp only; omega⟩
theorem yO (code:List UInt8) (hc:code.length<=1048576):Fn prog 14 [.sl false 1 (eK code)] (fun rs=>∃ (x:Con) (s:List UInt8),rs=[x.s,.str s]/\x.ok0/\s.length<=1000000):=by
 refine c7 aXs [] ?_
 dsimp only [aXs,cY,dD]
 repeat' (first|(simp only [cM,kQ,↓wA,↓wC,wB,cQ,cP,aU,aV,aW,reduceIte,reduceCtorEq,aA,aX,eL])|((first|apply cJ|apply cK|apply cI)<;>intro h<;>try simp only [h]))
 refine dM (aEr code 0 0 hc (by omega)) rfl rfl rfl ?_
 rintro _ _ ⟨x,k1,s1,rfl,rfl,hk1,hk1',hd⟩
 repeat' (first|(simp only [aZy,aZz,aZA,↓dY,cM,↓wA,↓wC,wB,cQ,cP,aU,aV,aW,reduceIte,reduceCtorEq,aA,aX,eL])|((first|apply cJ|apply cK|apply cI)<;>intro h<;>try simp only [h]))
 refine dM (rE code k1 s1 x hc (by omega) hd) rfl rfl rfl ?_
 rintro _ _ ⟨t0,k2,s2,rfl,rfl,hk2,hk2',ht0⟩
 repeat' (first|(simp only [cM,↓wA,↓wC,wB,cQ,cP,aU,aV,aW,reduceIte,reduceCtorEq,aA,aX,eL])|((first|apply cJ|apply cK|apply cI)<;>intro h<;>try simp only [h]))
 refine dM (kW code k2 s2 5 hc (by omega)) rfl rfl rfl ?_
 rintro _ _ ⟨n0,k3,s3,rfl,rfl,hk3,hk3',hn0,hn0'⟩
 repeat' (first|(simp only [cM,↓wA,↓wC,wB,cQ,cP,aU,aV,aW,reduceIte,reduceCtorEq,aA,aX,eL])|((first|apply cJ|apply cK|apply cI)<;>intro h<;>try simp only [h]))
 refine eM (fun y:List UInt8×Int×Nat×Int=>⟨[(2,.ptr 0 0 []),(4,.ptr 1 0 []),(5,.ptr 2 0 []),(6,.d (.str y.1)),(7,.d (.int .i64 y.2.1))],[.box aEe,.box (kO code y.2.2.1 y.2.2.2),.box x.s]⟩)
  (fun y=>(y.1.length:Int) + 300 * y.2.1<=5000/\(0<=y.2.1/\y.2.1 < 5)/\(y.2.2.1:Int) + 70 * y.2.1<=8000) (fun y=>y.2.1.toNat) (t0,n0,k3,s3) (cX _ rfl ⟨⟨rfl,rfl⟩,⟨rfl,rfl⟩,⟨rfl,rfl⟩,⟨rfl,rfl⟩,⟨rfl,rfl⟩,trivial⟩) ⟨by simp only; omega,by simp only; omega,by simp only; omega⟩ ?_
 rintro ⟨t,n,k4,s4⟩ ⟨i1,i2,i3⟩
 simp only at i1 i2 i3 ⊢
 cases h1:decide (0 < n) with
 | false =>
  have hn0:=of_decide_eq_false h1
  repeat' (first|(simp only [h1,cM,↓wA,↓wC,wB,cQ,cP,aU,aV,aW,reduceIte,reduceCtorEq,aA,aX,eL])|((first|apply cJ|apply cK|apply cI)<;>intro h<;>try simp only [h]))
  refine dM (aAf code k4 s4 20 hc (by omega)) rfl rfl rfl ?_
  rintro _ _ ⟨b,k5,s5,rfl,rfl,hk5,hk5'⟩
  cases b with
  | false =>
   repeat' (first|(simp only [aZy,aZz,aZA,↓dY,cM,↓wA,↓wC,wB,cQ,cP,aU,aV,aW,reduceIte,reduceCtorEq,aA,aX,eL])|((first|apply cJ|apply cK|apply cI)<;>intro h<;>try simp only [h]))
   exact cW rfl (cW rfl (eY _ rfl ⟨x,t,rfl,rX hd,by omega⟩))
  | true =>
   repeat' (first|(simp only [cM,↓wA,↓wC,wB,cQ,cP,aU,aV,aW,reduceIte,reduceCtorEq,aA,aX,eL])|((first|apply cJ|apply cK|apply cI)<;>intro h<;>try simp only [h]))
   refine dM (kW code k5 s5 2 hc (by omega)) rfl rfl rfl ?_
   rintro _ _ ⟨m0,k6,s6,rfl,rfl,hk6,hk6',hm0,hm0'⟩
   repeat' (first|(simp only [cM,↓wA,↓wC,wB,cQ,cP,aU,aV,aW,reduceIte,reduceCtorEq,aA,aX,eL])|(with_reducible refine cV ?_ ?_; focus (simp only [eA]; omega))|((first|apply cJ|apply cK|apply cI)<;>intro h<;>try simp only [h]))
   refine eM (fun y:List UInt8×Int=>⟨[(2,.ptr 0 0 []),(5,.ptr 2 0 []),(6,.d (.str y.1)),(8,.d (.int .i64 y.2))],[.box aEe,.box (kO code k6 s6),.box x.s]⟩)
    (fun y=>(y.1.length:Int) + y.2<=31/\0<=y.2/\y.2<=31) (fun y=>y.2.toNat) ([],29 + m0) (cX _ rfl ⟨⟨rfl,rfl⟩,⟨rfl,rfl⟩,⟨rfl,rfl⟩,⟨rfl,rfl⟩,trivial⟩) ⟨by simp only [aD]; omega,by simp only; omega,by simp only; omega⟩ ?_
   rintro ⟨u,m⟩ ⟨j1,j2,j3⟩
   simp only at j1 j2 j3 ⊢
   cases h2:decide (0 < m) with
   | false =>
    repeat' (first|(simp only [h2,aZy,aZz,aZA,↓dY,cM,↓wA,↓wC,wB,cQ,cP,aU,aV,aW,reduceIte,reduceCtorEq,aA,aX,eL])|((first|apply cJ|apply cK|apply cI)<;>intro h<;>try simp only [h]))
    exact cW rfl (cW rfl (eY _ rfl ⟨x,u,rfl,rX hd,by omega⟩))
   | true =>
    have h2':=of_decide_eq_true h2
    repeat' (first|(simp only [h2,cM,↓wA,↓wC,wB,cQ,cP,aU,aV,aW,reduceIte,reduceCtorEq,aA,aX,eL])|(with_reducible refine cW ?_ ?_; focus ((try simp only [aB,aC,aD]); omega))|(with_reducible refine cV ?_ ?_; focus (simp only [eA]; omega))|((first|apply cJ|apply cK|apply cI)<;>intro h<;>try simp only [h]))
    exact ⟨(u ++ [10],m - 1),(cX _ rfl ⟨⟨rfl,rfl⟩,⟨rfl,rfl⟩,⟨rfl,rfl⟩,⟨rfl,rfl⟩,trivial⟩),⟨by simp only [aB,aG]; omega,by simp only; omega,by simp only; omega⟩,by simp only; omega⟩
 | true =>
  have h1':=of_decide_eq_true h1
  repeat' (first|(simp only [h1,aZy,aZz,aZA,↓dY,cM,↓wA,↓wC,wB,cQ,cP,aU,aV,aW,reduceIte,reduceCtorEq,aA,aX,eL])|(with_reducible refine cW ?_ ?_; focus ((try simp only [aB,aC,aD]); omega))|((first|apply cJ|apply cK|apply cI)<;>intro h<;>try simp only [h]))
  refine dM (rE code k4 s4 x hc (by omega) hd) rfl rfl rfl ?_
  rintro _ _ ⟨w,k5,s5,rfl,rfl,hk5,hk5',hw⟩
  repeat' (first|(simp only [cM,↓wA,↓wC,wB,cQ,cP,aU,aV,aW,reduceIte,reduceCtorEq,aA,aX,eL])|(with_reducible refine cW ?_ ?_; focus ((try simp only [aB,aC,aD]); omega))|(with_reducible refine cV ?_ ?_; focus (simp only [eA]; omega))|((first|apply cJ|apply cK|apply cI)<;>intro h<;>try simp only [h]))
  exact ⟨(t ++ 10 :: w,n - 1,k5,s5),(cX _ rfl ⟨⟨rfl,rfl⟩,⟨rfl,rfl⟩,⟨rfl,rfl⟩,⟨rfl,rfl⟩,⟨rfl,rfl⟩,trivial⟩),⟨by simp only [aB,aC]; omega,by simp only; omega,by simp only; omega⟩,by simp only; omega⟩
end Go.Pe.Tryz
set_option maxHeartbeats 4000000
namespace Go.Pe.Tryz
open Go.Proofs.Tryz Go.Sort
theorem aTm (x:D) (h:mE (.int .u8) x):∃ b:UInt8,x=.int .u8 (b.toNat:Int)/\True:=by
 obtain ⟨n,rfl,hn⟩:=h
 have hr:0<=n/\n<=255:=by
  simp only [Lit.wf,aN,decide_eq_true_eq] at hn
  exact hn
 refine ⟨UInt8.ofNat n.toNat,?_,trivial⟩
 have:(UInt8.ofNat n.toNat).toNat=n.toNat:=by
  rw [UInt8.toNat_ofNat']
  omega
 rw [this,Int.toNat_of_nonneg hr.1]
theorem aDo (x:D) (h:mE (.sl 1 (.int .u8)) x):∃ code:List UInt8,x=.sl false 1 (eK code):=by
 obtain ⟨ds,rfl,h1,h2⟩:=h
 obtain ⟨ys,h3,_,_⟩:=aDA (f:=fun b:UInt8=>D.int .u8 (b.toNat:Int)) (P:=fun _=>True) aTm ds h2
 exact ⟨ys,by rw [h3,aFF]⟩
end Go.Pe.Tryz
set_option maxHeartbeats 8000000
namespace Go.Pe.Tryz
open Go.Proofs.Tryz Go.Sort
end Go.Pe.Tryz
