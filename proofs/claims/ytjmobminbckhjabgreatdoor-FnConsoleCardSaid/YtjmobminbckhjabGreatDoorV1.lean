/- Consoles: an office and a log; sizes, copies, equality; are they valid? walked, and the law; The law FnConsole, what the draw gives taken as said; What draws: a console and a command; The law FnConsole -/
import Derived.Test.YtjmobminbckhjabGreatDoorW7
import Derived.Test.YtjmobminbckhjabGreatDoorW2
import Derived.Test.YtjmobminbckhjabGreatDoorW6
import Derived.Test.YtjmobminbckhjabGreatDoorPeD
import Derived.Test.YtjmobminbckhjabGreatDoorMc1
import Derived.Test.YtjmobminbckhjabGreatDoorMc2
import Derived.Test.YtjmobminbckhjabGreatDoorMc3
import Derived.Test.YtjmobminbckhjabGreatDoorMc4
import Derived.Test.YtjmobminbckhjabGreatDoorMc5
import Derived.Test.YtjmobminbckhjabGreatDoorMc6
import Derived.Test.YtjmobminbckhjabGreatDoorMc7
import Derived.Test.YtjmobminbckhjabGreatDoorMc8
set_option maxRecDepth 100000
set_option maxHeartbeats 4000000
set_option linter.all false
open Bool renaming and_eq_true->aB
open Nat renaming reduceBEq->aA, reduceEqDiff->aC, reduceAdd->aD, reduceSub->aE, reduceLT->aF
namespace Go.Pe.Tryz
open Go.Proofs.Tryz
theorem wG (x:Con) (h:x.ok0):Fn prog 12 [x.s] (fun rs=>rs=[.bool (gO x)]):=by
 have hG:=q9 x h
 refine c7 aYH [] ?_
 dsimp only [aYH,cY,dD]
 repeat' (first|(simp only [aZy,aZz,↓dY,cM,↓wA,↓wC,wB,cQ,cP,aC,aD,aE,reduceIte,reduceCtorEq,aA,aF])|(refine cO hG (by simp [dH,dQ,aZC]) rfl ?_)|(refine cR hG (by simp [dH,dQ,aZC]) rfl ?_)|((first|apply cJ|apply cK|apply cI)<;>intro h<;>try simp only [h]))
end Go.Pe.Tryz
namespace Go.Pe.Tryz
open Go.Proofs.Tryz Go.Sort
theorem aHe (code:List UInt8) (hD:code.length<=65536->Fn prog 7 [.sl false 1 (eK code)] (fun rs=>∃ (x:Con) (s:List UInt8),rs=[x.s,.str s]/\x.ok0/\s.length<=1000000)):Fn prog 3 [.sl false 1 (eK code)] (fun rs=>rs=[.bool true]):=by
 have hB:=aGq code
 by_cases hc:(65536:Int) < (code.length:Int)
 ·have hd:decide ((65536:Int) < (code.length:Int))=true:=decide_eq_true hc
  rw [hd] at hB
  refine c7 ef3 [] ?_
  dsimp only [ef3,cY,dD]
  repeat' (first|(simp only [↓wA,↓wC,wB,cQ,cP,aC,aD,aE,reduceIte,reduceCtorEq,aA,aF])|(refine cO (hB) rfl rfl ?_)|(refine cR (hB) rfl rfl ?_)|((first|apply cJ|apply cK|apply cI)<;>intro h<;>try simp only [h]))
 ·have hd:decide ((65536:Int) < (code.length:Int))=false:=decide_eq_false hc
  rw [hd] at hB
  refine c7 ef3 [] ?_
  dsimp only [ef3,cY,dD]
  repeat' (first|(simp only [↓wA,↓wC,wB,cQ,cP,aC,aD,aE,reduceIte,reduceCtorEq,aA,aF])|(refine cO (hB) rfl rfl ?_)|(refine cR (hB) rfl rfl ?_)|((first|apply cJ|apply cK|apply cI)<;>intro h<;>try simp only [h]))
  refine tH (hD (by omega)) rfl fun rs h=>?_
  obtain ⟨x,s,rfl,ho,hs⟩:=h
  refine ⟨.inl rfl,?_⟩
  have hI:=qM x s ho (by omega)
  have hS:=pY x s ho (by omega)
  have hV:=jY x ho
  have hW:=wG x ho
  have hx:=aGo (l:=s) ho
  have hE:=sW _ hx
  have hE2:=sW x ho
  have hVx:=jY _ hx
  have hss:∀ n:List UInt8,decide (n=n)=true:=fun n=>decide_eq_true rfl
  have hbb:∀ b:Bool,(b != b)=false:=fun b=>by cases b<;>rfl
  rcases aBU x s with ⟨e,hq⟩|⟨hv,h60,hr,hoq,hd1,hp1,hk1⟩
  ·have hn:∀ n:Int,decide (n=n)=true:=fun n=>decide_eq_true rfl
   rw [e] at hI hS hE hVx hx
   generalize (jO x s).2=r at hI hS hq
   have hw:(decide (r=[110,111]) || (decide (r=[98,97,100]) || decide (r=[102,117,108,108])))=true:=by
    rcases hq with h|h|h<;>rw [h]<;>rfl
   rcases hq with rfl|rfl|rfl
   all_goals
    repeat' (first|(simp only [aJS,hn,jU,j5,↓gK,aZy,aZz,aZA,aZC,↓dY,hss,hbb,cM,↓wA,↓wC,wB,cQ,cP,aC,aD,aE,reduceIte,reduceCtorEq,aA,aF])|(refine cO hI rfl rfl ?_)|(refine cO hS rfl rfl ?_)|(refine cO hE2 rfl rfl ?_)|(refine cR hE2 rfl rfl ?_)|(refine cR hV rfl rfl ?_)|(refine cR hW rfl rfl ?_)|((first|apply cJ|apply cK|apply cI)<;>intro h<;>try simp only [h]))
   all_goals trace_state
  ·obtain ⟨g1,g2⟩:=aC0 hv h60 hr hoq hd1 hp1 hk1
   have hne:decide ((jO x s).1.p=x.p)=false:=decide_eq_false (fun h=>by
    rw [hp1] at h
    have:=congrArg List.length h
    simp only [List.length_append,List.length_cons,List.length_nil] at this
    omega)
   have hvl:lv (jO x s).1.d (jO x s).1.p (jO x s).1.c=true:=by
    simp only [gO,aB] at g1
    exact g1.2
   have hcn:((lF x.d x.p x.c).length:Int)=x.c:=by
    simp only [gO,aB] at hv
    have h:=hv.2
    unfold lF nF
    rw [if_pos hv.2]
    simp only [lv,aB,decide_eq_true_eq] at h
    exact h.2.symm
   have hL:=aLt (jO x s).1.d (jO x s).1.p (jO x s).1.c (by have:=hx.2; omega)
   rw [g2,hvl] at hL
   rw [g1] at hVx
   generalize lF x.d x.p x.c=L at hL hcn
   generalize (jO x s).2=r at hI hS hL
   generalize (jO x s).1=q at hI hS hE hVx hx hne hL
   have hc0:eA .i64 (x.c + 1):=by
    have:=(rG (by simp only [gO,aB] at hv; exact hv.2:lv x.d x.p x.c=true))
    simp only [eA]; omega
   have hk:decide (((L.length + 1:Nat):Int)=x.c + 1)=true:=decide_eq_true (by omega)
   have ht:(((L.length + 1:Nat):Int) - 1).toNat=L.length:=by omega
   have hg:(L ++ [(s,r)])[L.length]?=some (s,r):=by rw [List.getElem?_append_right (Nat.le_refl _),Nat.sub_self]; rfl
   repeat' (first|(simp only [hk,ht,hg,lE,lC,Option.map_some,dC,↓aA1,aJS,hne,jU,j5,↓gK,cU,nK,aZy,aZz,aZA,aZC,↓dY,hss,hbb,Bool.false_and,Bool.and_false,cM,↓wA,↓wC,wB,cQ,cP,aC,aD,aE,reduceIte,reduceCtorEq,aA,aF])|(refine cO hI rfl rfl ?_)|(refine cO hS rfl rfl ?_)|(refine cO hE rfl rfl ?_)|(refine cR hE rfl rfl ?_)|(refine cR hV rfl rfl ?_)|(refine cR hW rfl rfl ?_)|(refine cO hL rfl rfl ?_)|(refine cO hVx rfl rfl ?_)|(refine cV (by simp only [eA] at *; omega) ?_)|(refine cW (by omega) ?_)|((first|apply cJ|apply cK|apply cI)<;>intro h<;>try simp only [h]))
   have hs2:uM false [2,2] (.d (kU (s,r))) (.d (.st (.cons (.str s) (.cons (.str r) .nil))))=fun K=>K (.d (.bool true)):=by
    funext K
    simp [kU,aVd,wH,lX]
   rw [hs2]
   rfl
end Go.Pe.Tryz
set_option maxHeartbeats 8000000
namespace Go.Pe.Tryz
open Go.Proofs.Tryz Go.Sort
theorem aIm (code:List UInt8) (hc:code.length<=1048576):Fn prog 7 [.sl false 1 (eK code)] (fun rs=>∃ (x:Con) (s:List UInt8),rs=[x.s,.str s]/\x.ok0/\s.length<=1000000):=by
 refine c7 ef7 [[1,1,1,1,0]] ?_
 dsimp only [ef7,cY,dD]
 repeat' (first|(simp only [cM,kQ,↓wA,↓wC,wB,cQ,cP,aC,aD,aE,reduceIte,reduceCtorEq,aA,aF,eL])|((first|apply cJ|apply cK|apply cI)<;>intro h<;>try simp only [h]))
 refine dM (aEr code 0 0 hc (by omega)) rfl rfl rfl ?_
 rintro _ _ ⟨x0,k1,s1,rfl,rfl,hk1,hk1',hd⟩
 repeat' (first|(simp only [aZy,aZz,aZA,↓dY,cM,↓wA,↓wC,wB,cQ,cP,aC,aD,aE,reduceIte,reduceCtorEq,aA,aF,eL])|((first|apply cJ|apply cK|apply cI)<;>intro h<;>try simp only [h]))
 refine dM (aAf code k1 s1 40 hc (by omega)) rfl rfl rfl ?_
 rintro _ _ ⟨b,k2,s2,rfl,rfl,hk2,hk2'⟩
 apply aVG (fun y:Con×Nat×Int=>(⟨[(2,.ptr 0 0 []),(4,.ptr 1 0 []),(5,.ptr 2 0 [])],[.box aEe,.box (kO code y.2.1 y.2.2),.box y.1.s]⟩:St)) (fun y=>aG4 y.1/\y.2.1<=20000)
 case a =>
  intro rest
  cases b with
  | false =>
   repeat' (first|(simp only [cM,↓wA,↓wC,wB,cQ,cP,aC,aD,aE,reduceIte,reduceCtorEq,aA,aF,eL])|((first|apply cJ|apply cK|apply cI)<;>intro h<;>try simp only [h]))
   refine dF (cX (s':=⟨[(2,.ptr 0 0 []),(4,.ptr 1 0 []),(5,.ptr 2 0 [])],[.box aEe,.box (kO code k2 s2),.box x0.s]⟩) _ rfl ⟨⟨rfl,rfl⟩,⟨rfl,rfl⟩,⟨rfl,rfl⟩,trivial⟩) ?_
   exact rest.out (x0,k2,s2) ⟨hd,by simp only; omega⟩
  | true =>
   repeat' (first|(simp only [cM,↓wA,↓wC,wB,cQ,cP,aC,aD,aE,reduceIte,reduceCtorEq,aA,aF,eL])|((first|apply cJ|apply cK|apply cI)<;>intro h<;>try simp only [h]))
   refine dM (kW code k2 s2 2 hc (by omega)) rfl rfl rfl ?_
   rintro _ _ ⟨n0,k3,s3,rfl,rfl,hk3,hk3',hn0,hn0'⟩
   repeat' (first|(simp only [cM,↓wA,↓wC,wB,cQ,cP,aC,aD,aE,reduceIte,reduceCtorEq,aA,aF,eL])|(with_reducible refine cV ?_ ?_; focus (simp only [eA]; omega))|((first|apply cJ|apply cK|apply cI)<;>intro h<;>try simp only [h]))
   refine eM (fun y:Nat×(List UInt8×List UInt8×Int)=>⟨[(2,.ptr 0 0 []),(4,.ptr 1 0 []),(5,.ptr 2 0 []),(6,.ptr 3 0 []),(7,.d (.int .i64 y.1))],[.box aEe,.box (kO code k3 s3),.box x0.s,.box (eQ y.2.1 y.2.2.1 y.2.2.2)]⟩)
    (fun y=>y.1<=60/\y.2.1.length + y.2.2.1.length + 1000 * y.1<=60000/\0<=y.2.2.2/\y.2.2.2<=61) (fun y=>y.1) ((59 + n0).toNat,([],[],0))
    (cX _ rfl ⟨⟨rfl,rfl⟩,⟨rfl,rfl⟩,⟨rfl,rfl⟩,⟨rfl,rfl⟩,⟨by show SV.d (.int .i64 (59 + n0))=SV.d (.int .i64 ((59 + n0).toNat:Int)); rw [Int.toNat_of_nonneg (by omega)],rfl⟩,trivial⟩) ⟨by simp only; omega,by simp only [List.length_nil]; omega,by simp,by simp⟩ ?_
   rintro ⟨n,d,p,c⟩ ⟨i1,i2,i3,i4⟩
   simp only at i1 i2 i3 i4 ⊢
   cases n with
   | zero =>
    have hz:decide ((0:Int) < ((0:Nat):Int))=false:=rfl
    repeat' (first|(simp only [hz,eI,fC,fQ,↓gK,jU,j5,aBy,aZy,aZz,aZA,↓dY,cM,↓wA,↓wC,wB,cQ,cP,aC,aD,aE,reduceIte,reduceCtorEq,aA,aF,eL])|((first|apply cJ|apply cK|apply cI)<;>intro h<;>try simp only [h]))
    refine dF (cX (s':=⟨[(2,.ptr 0 0 []),(4,.ptr 1 0 []),(5,.ptr 2 0 [])],[.box aEe,.box (kO code k3 s3),.box (Con.s { x0 with d:=d,p:=p,c:=c })]⟩) _ rfl ⟨⟨rfl,rfl⟩,⟨rfl,rfl⟩,⟨rfl,rfl⟩,trivial⟩) ?_
    exact rest.out (({ x0 with d:=d,p:=p,c:=c }:Con),k3,s3) ⟨⟨hd.1,by show d.length + p.length<=100000; omega⟩,by simp only; omega⟩
   | succ n =>
    have hz:decide ((0:Int) < ((n + 1:Nat):Int))=true:=decide_eq_true (by omega)
    have e5:(((n + 1:Nat):Int) - 1)=(n:Int):=by omega
    have hA:=mY d p c [120] [] (by omega) (by rw [eP]; decide) (by rw [eP]; decide)
    obtain ⟨d',p',c',u,e,f1,f2,f3⟩:=aFJ d p c [120] [] i3 i4
    rw [e] at hA
    simp only [eQ,mM] at hA ⊢
    repeat' (first|(simp only [hz,cM,↓wA,↓wC,wB,cQ,cP,aC,aD,aE,reduceIte,reduceCtorEq,aA,aF,eL])|(refine cO (hA) rfl rfl ?_)|(refine cR (hA) rfl rfl ?_)|(with_reducible refine cV ?_ ?_; focus (simp only [eA]; omega))|((first|apply cJ|apply cK|apply cI)<;>intro h<;>try simp only [h]))
    all_goals rw [e5]
    exact ⟨(n,d',p',c'),(cX _ rfl ⟨⟨rfl,rfl⟩,⟨rfl,rfl⟩,⟨rfl,rfl⟩,⟨rfl,rfl⟩,⟨rfl,rfl⟩,trivial⟩),⟨by simp only; omega,by simp only; omega,by simp only; omega,by simp only; omega⟩,by simp⟩
 case b =>
  rintro ⟨x,k3,s3⟩ ⟨hd,hk3⟩
  simp only at hd hk3 ⊢
  repeat' (first|(simp only [aZy,aZz,aZA,↓dY,cM,↓wA,↓wC,wB,cQ,cP,aC,aD,aE,reduceIte,reduceCtorEq,aA,aF,eL])|((first|apply cJ|apply cK|apply cI)<;>intro h<;>try simp only [h]))
  refine dM (rE code k3 s3 x hc (by omega) hd) rfl rfl rfl ?_
  rintro _ _ ⟨t,k4,s4,rfl,rfl,hk4,hk4',ht⟩
  repeat' (first|(simp only [cM,↓wA,↓wC,wB,cQ,cP,aC,aD,aE,reduceIte,reduceCtorEq,aA,aF,eL])|((first|apply cJ|apply cK|apply cI)<;>intro h<;>try simp only [h]))
  refine dM (aAf code k4 s4 8 hc (by omega)) rfl rfl rfl ?_
  rintro _ _ ⟨b,k5,s5,rfl,rfl,hk5,hk5'⟩
  cases b with
  | false =>
   repeat' (first|(simp only [aZy,aZz,aZA,↓dY,cM,↓wA,↓wC,wB,cQ,cP,aC,aD,aE,reduceIte,reduceCtorEq,aA,aF,eL])|((first|apply cJ|apply cK|apply cI)<;>intro h<;>try simp only [h]))
   exact cW rfl (cW rfl (eY _ rfl ⟨x,t,rfl,rX hd,by omega⟩))
  | true =>
   repeat' (first|(simp only [cM,↓wA,↓wC,wB,cQ,cP,aC,aD,aE,reduceIte,reduceCtorEq,aA,aF,eL])|((first|apply cJ|apply cK|apply cI)<;>intro h<;>try simp only [h]))
   refine dM (aFZ code k5 s5 t [32,48,49,97,64,35,44] hc (by omega) (by omega) (by decide) (by decide)) rfl rfl rfl ?_
   rintro _ _ ⟨u,k6,s6,rfl,rfl,hk6,hk6',hu⟩
   repeat' (first|(simp only [aZy,aZz,aZA,↓dY,cM,↓wA,↓wC,wB,cQ,cP,aC,aD,aE,reduceIte,reduceCtorEq,aA,aF,eL])|((first|apply cJ|apply cK|apply cI)<;>intro h<;>try simp only [h]))
   exact cW rfl (cW rfl (eY _ rfl ⟨x,u,rfl,rX hd,by omega⟩))
end Go.Pe.Tryz
set_option maxHeartbeats 4000000
namespace Go.Pe.Tryz
open Go.Proofs.Tryz Go.Sort
theorem lawFnConsole (x0:D) (h0:mE (.sl 1 (.int .u8)) x0):Fn prog 3 [x0] (fun rs=>rs=[.bool true]):=by
 obtain ⟨code,rfl⟩:=aDo x0 h0
 exact aHe code fun h=>aIm code (by omega)
end Go.Pe.Tryz
