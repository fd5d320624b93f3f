/- What draws: a step of an office; A variable is let go, its views with it: they read as data from here on; Steps of an office: plain laws of what is dealt with, blocked and released; What the laws of offices compare by, walked; What draws: an office; What draws: an office and a step, an office alone, a day; What draws: a run of steps of an office -/
import Derived.Test.YtmkmjcgkcpmmpaaGreatDoorW3
import Derived.Test.YtmkmjcgkcpmmpaaGreatDoorPeD
import Derived.Test.YtmkmjcgkcpmmpaaGreatDoorMc1
import Derived.Test.YtmkmjcgkcpmmpaaGreatDoorMc2
import Derived.Test.YtmkmjcgkcpmmpaaGreatDoorMc3
import Derived.Test.YtmkmjcgkcpmmpaaGreatDoorMc4
import Derived.Test.YtmkmjcgkcpmmpaaGreatDoorMc5
import Derived.Test.YtmkmjcgkcpmmpaaGreatDoorW1
set_option maxRecDepth 100000
set_option maxHeartbeats 4000000
set_option linter.all false
namespace Go.Pe.Tryz
open Nat (reduceEqDiff reduceAdd reduceSub reduceLT)
open Go.Proofs.Tryz
structure Held (p:Prop):Prop where
 out:p
theorem aJQ {G:Prop} {P:PG} {m:MC} {α:Type} {K:Exit->St->Prop} (S:α->St) (C:α->Prop) (a:Held (∀ x,C x->bZ P m (S x) K)->G) (b:∀ x,C x->bZ P m (S x) K):G:=a ⟨b⟩
def tG (o:Off):Prop:=o.cs.length<=10/\(∀ x∈o.cs,0<=x.i/\x.i<=1000/\x.h.length<=10/\∀ n∈x.h,0<=n/\n<=1000)/\o.led.length<=20/\∀ s∈o.led,s.length<=1000
theorem vU {o:Off} (h:tG o):o.ok0:=⟨⟨by have:=h.1; omega,fun x hx=>by have:=(h.2.1 x hx).2.2.1; unfold Cs.ok0; omega⟩,by have:=h.2.2.1; omega,fun s hs=>by have:=h.2.2.2 s hs; omega⟩
theorem tT {o:Off} (h:bN o=true):tG o:=by
 obtain ⟨_,_,h3,_,_,_,_,h8,h9,h10⟩:=bT h
 refine ⟨by omega,fun x hx=>?_,by omega,fun s hs=>by have:=h9 s hs; omega⟩
 have hc:=cG (h10 x hx)
 exact ⟨by omega,by omega,by omega,fun n hn=>by have:=hc.2.2.2.2.2.2.2.1 n hn; omega⟩
def vE (s:Stp):Prop:=(0<=s.k/\s.k<=7)/\(0<=s.i/\s.i<=1000)/\(0<=s.a/\s.a<=4)/\-1<=s.v/\s.v<=20001
def zT:D:=.st (.cons (.int .i64 0) (.cons (.int .i64 0) (.cons (.int .i64 0) (.cons (.int .i64 0) .nil))))
def osS (code:List UInt8) (cv:Value) (x:Nat×Int×Int×Int):St:=⟨[(0,.ptr 0 0 []),(4,.ptr 4 0 []),(5,.d (.int .i64 x.2.2.1)),(6,.d (.int .i64 x.2.2.2))],[.box (gC cv x.1 x.2.1),.val (.sl false 1 (bH code)),.tag 1 cv,.dead,.box zT]⟩
theorem iJ {v:List Int} {m a b:Int} (h:m∈v) (hv:v.all (fun n=>decide (a<=n) && decide (n<=b))=true):a<=m/\m<=b:=by
 have:=List.all_eq_true.1 hv m h
 simpa using this
theorem kU (code:List UInt8) (cv:Value) (k:Nat) (seed:Int) (o:Off) (hc:code.length<=1048576) (hk:k<=999999999000) (ho:tG o):vR prog 36 (gC cv k seed) (cL code cv) [o.s]
  (fun x' rs=>∃ (s:Stp) (k':Nat) (seed':Int),x'=gC cv k' seed'/\rs=[s.d]/\k<=k'/\k'<=k + 40/\vE s):=by
 have hlen:=ho.1
 refine aAk (ps:=[[1,1,1,0,0],[1,0]]) (fn:=f36) (by exact func36) c36 r36 (n:=102) (by rfl) (rv:=[.cell 4 29]) (by rfl) (by decide) (by simp) ?_
 unfold m36
 try simp only [wQ]
 simp only [cI,dD]
 simp only [cL,iT,lS,pC,List.map_cons,List.map_nil,List.cons_append,List.nil_append]
 repeat' (first|(simp only [Off.s_noOwn,Off.s_isV,aD,↓wA,↓wC,wB,aF,aE,reduceEqDiff,reduceAdd,reduceSub,reduceIte,reduceCtorEq,Nat.reduceBEq,reduceLT,dJ])|((first|apply aB|apply aC|apply aA)<;>intro h<;>try simp only [h]))
 refine aR (dU 3 rfl) ?_
 simp only [aF,aE,Off.s_unown,↓wA,↓wC,wB,aF,aE,reduceEqDiff,reduceAdd,reduceSub,reduceIte,reduceCtorEq,Nat.reduceBEq,reduceLT,dJ]
 have hfa:∀ K:SV->Prop,aT 1 1 (.d (.ptr o.s)) K=K (.d (.ptr (.sl false 4 (dl Cs.s o.cs)))):=fun K=>by simp [Off.s,bD,aT,D.pre,D.nth,D.size]
 repeat' (first|(simp only [aD,↓wA,↓wC,wB,aF,aE,reduceEqDiff,reduceAdd,reduceSub,reduceIte,reduceCtorEq,Nat.reduceBEq,reduceLT,dJ])|((first|apply aB|apply aC|apply aA)<;>intro h<;>try simp only [h]))
 refine cJ 5 ?_
 simp only [i6,iV,gZ,D.unown,↓wA,↓wC,wB,aF,aE,reduceEqDiff,reduceAdd,reduceSub,reduceIte,reduceCtorEq,Nat.reduceBEq,reduceLT,dJ]
 refine aZ (b8 code cv k seed [1,12,500] hc (by omega) (by simp) (by simp)) rfl rfl rfl (bB code cv rfl rfl) ?_
 rintro _ _ ⟨m,k1,s1,rfl,rfl,hk1,hk1',hmm⟩
 refine ⟨⟨rfl,rfl⟩,?_⟩
 repeat' (first|(simp only [aD,↓wA,↓wC,wB,aF,aE,reduceEqDiff,reduceAdd,reduceSub,reduceIte,reduceCtorEq,Nat.reduceBEq,reduceLT,dJ])|((first|apply aB|apply aC|apply aA)<;>intro h<;>try simp only [h]))
 refine cJ 6 ?_
 simp only [i6,iV,gZ,D.unown,↓wA,↓wC,wB,aF,aE,reduceEqDiff,reduceAdd,reduceSub,reduceIte,reduceCtorEq,Nat.reduceBEq,reduceLT,dJ]
 refine aZ (b8 code cv k1 s1 [1,2,2,9] hc (by omega) (by simp) (by simp)) rfl rfl rfl (bB code cv rfl rfl) ?_
 rintro _ _ ⟨n,k2,s2,rfl,rfl,hk2,hk2',hmn⟩
 refine ⟨⟨rfl,rfl⟩,?_⟩
 have hm2:=iJ (a:=0) (b:=1000) hmm (by decide)
 have hn2:=iJ (a:=0) (b:=1000) hmn (by decide)
 apply aJQ (osS code cv) (fun x=>k<=x.1/\x.1<=k + 12/\(0<=x.2.2.1/\x.2.2.1<=1000)/\0<=x.2.2.2/\x.2.2.2<=1000)
 case a =>
  intro rest
  cases h0:decide ((0:Int) < (o.cs.length:Int)) with
  | false =>
   repeat' (first|(simp only [hfa,aJ,h0,aM,aD,↓wA,↓wC,wB,aF,aE,reduceEqDiff,reduceAdd,reduceSub,reduceIte,reduceCtorEq,Nat.reduceBEq,reduceLT,dJ])|((first|apply aB|apply aC|apply aA)<;>intro h<;>try simp only [h]))
   refine aR (aN (s':=osS code cv (k2,s2,m,n)) _ rfl ⟨⟨rfl,rfl⟩,⟨rfl,rfl⟩,⟨rfl,rfl⟩,⟨rfl,rfl⟩,trivial⟩) ?_
   exact rest.out (k2,s2,m,n) ⟨by simp only; omega,by simp only; omega,hm2,hn2⟩
  | true =>
   have h0':=of_decide_eq_true h0
   repeat' (first|(simp only [hfa,aJ,h0,aM,aD,↓wA,↓wC,wB,aF,aE,reduceEqDiff,reduceAdd,reduceSub,reduceIte,reduceCtorEq,Nat.reduceBEq,reduceLT,dJ])|((first|apply aB|apply aC|apply aA)<;>intro h<;>try simp only [h]))
   have hld:(0:Int)<=(o.cs.length:Int):=by omega
   refine aFf (fun s=>∃ (x:Cs) (k':Nat) (s':Int),x∈o.cs/\k2<=k'/\k'<=k2 + 2/\cT s ⟨[(0,.ptr 0 0 []),(4,.ptr 4 0 []),(6,.d (.int .i64 n)),(7,.ptr 7 0 [])],[.box (gC cv k' s'),.val (.sl false 1 (bH code)),.tag 1 cv,.dead,.box zT,.dead,.dead,.box x.s]⟩) ?_ ?_
   ·refine ⟨?_,?_⟩
    ·refine aZ (e9 code cv k2 s2 o.cs.length hc (by omega)) rfl rfl rfl (bB code cv rfl rfl) ?_
     rintro _ _ ⟨p,k3,s3,rfl,rfl,hk3,hk3',hp,hp'⟩
     refine ⟨⟨rfl,rfl⟩,?_⟩
     obtain ⟨x,hr⟩:=bM (show p.toNat < o.cs.length by omega)
     repeat' (first|(simp only [aX,hp,hr,Option.map_some,↓fS,Cs.s_isV,Cs.s_size,Cs.s_noOwn,aD,↓wA,↓wC,wB,aF,aE,reduceEqDiff,reduceAdd,reduceSub,reduceIte,reduceCtorEq,Nat.reduceBEq,reduceLT,dJ])|((first|apply aB|apply aC|apply aA)<;>intro h<;>try simp only [h]))
     exact ⟨x,k3,s3,List.mem_of_getElem? hr,hk3,hk3',(aN _ rfl ⟨⟨rfl,rfl⟩,⟨rfl,rfl⟩,⟨rfl,rfl⟩,⟨rfl,rfl⟩,trivial⟩)⟩
    ·refine aZ (e9 code cv k2 s2 o.cs.length hc (by omega)) rfl rfl rfl (bB code cv rfl rfl) ?_
     rintro _ _ ⟨p,k3,s3,rfl,rfl,hk3,hk3',hp,hp'⟩
     refine ⟨⟨rfl,rfl⟩,?_⟩
     obtain ⟨x,hr⟩:=bM (show p.toNat < o.cs.length by omega)
     repeat' (first|(simp only [aX,hp,hr,Option.map_some,↓fS,Cs.s_isV,Cs.s_size,Cs.s_noOwn,aD,↓wA,↓wC,wB,aF,aE,reduceEqDiff,reduceAdd,reduceSub,reduceIte,reduceCtorEq,Nat.reduceBEq,reduceLT,dJ])|((first|apply aB|apply aC|apply aA)<;>intro h<;>try simp only [h]))
     exact ⟨x,k3,s3,List.mem_of_getElem? hr,hk3,hk3',(aN _ rfl ⟨⟨rfl,rfl⟩,⟨rfl,rfl⟩,⟨rfl,rfl⟩,⟨rfl,rfl⟩,trivial⟩)⟩
   ·rintro s1 ⟨x,k3,s3,hx,hk3,hk3',hw⟩
    refine ⟨_,hw,?_⟩
    have hxb:=ho.2.1 x hx
    cases h1:decide ((0:Int) < (x.h.length:Int)) with
    | false =>
     repeat' (first|(simp only [aJ,h1,eW,eV,gE,fZ,aS,aD,↓wA,↓wC,wB,aF,aE,reduceEqDiff,reduceAdd,reduceSub,reduceIte,reduceCtorEq,Nat.reduceBEq,reduceLT,dJ])|((first|apply aB|apply aC|apply aA)<;>intro h<;>try simp only [h]))
     refine aR (aN (s':=osS code cv (k3,s3,x.i,n)) _ rfl ⟨⟨rfl,rfl⟩,⟨rfl,rfl⟩,⟨rfl,rfl⟩,⟨rfl,rfl⟩,trivial⟩) ?_
     exact rest.out (k3,s3,x.i,n) ⟨by simp only; omega,by simp only; omega,⟨hxb.1,hxb.2.1⟩,hn2⟩
    | true =>
     have h1':=of_decide_eq_true h1
     repeat' (first|(simp only [aJ,h1,eW,eV,gE,fZ,aS,aD,↓wA,↓wC,wB,aF,aE,reduceEqDiff,reduceAdd,reduceSub,reduceIte,reduceCtorEq,Nat.reduceBEq,reduceLT,dJ])|((first|apply aB|apply aC|apply aA)<;>intro h<;>try simp only [h]))
     refine aZ (yO code cv k3 s3 2 hc (by omega)) rfl rfl rfl (bB code cv rfl rfl) ?_
     rintro _ _ ⟨b,k4,s4,rfl,rfl,hk4,hk4'⟩
     refine ⟨⟨rfl,rfl⟩,?_⟩
     cases b with
     | false =>
      repeat' (first|(simp only [aD,↓wA,↓wC,wB,aF,aE,reduceEqDiff,reduceAdd,reduceSub,reduceIte,reduceCtorEq,Nat.reduceBEq,reduceLT,dJ])|((first|apply aB|apply aC|apply aA)<;>intro h<;>try simp only [h]))
      refine aR (aN (s':=osS code cv (k4,s4,x.i,n)) _ rfl ⟨⟨rfl,rfl⟩,⟨rfl,rfl⟩,⟨rfl,rfl⟩,⟨rfl,rfl⟩,trivial⟩) ?_
      exact rest.out (k4,s4,x.i,n) ⟨by simp only; omega,by simp only; omega,⟨hxb.1,hxb.2.1⟩,hn2⟩
     | true =>
      repeat' (first|(simp only [aJ,eW,eV,gE,fZ,aS,aD,↓wA,↓wC,wB,aF,aE,reduceEqDiff,reduceAdd,reduceSub,reduceIte,reduceCtorEq,Nat.reduceBEq,reduceLT,dJ])|(refine bO ?_)|((first|apply aB|apply aC|apply aA)<;>intro h<;>try simp only [h]))
      refine aZ (e9 code cv k4 s4 x.h.length hc (by omega)) rfl rfl rfl (bB code cv rfl rfl) ?_
      rintro _ _ ⟨q,k5,s5,rfl,rfl,hk5,hk5',hq,hq'⟩
      refine ⟨⟨rfl,rfl⟩,?_⟩
      obtain ⟨y,hy⟩:=bM (show q.toNat < x.h.length by omega)
      have hyb:=hxb.2.2.2 y (List.mem_of_getElem? hy)
      repeat' (first|(simp only [aX,hq,hy,Option.map_some,iM,aD,↓wA,↓wC,wB,aF,aE,reduceEqDiff,reduceAdd,reduceSub,reduceIte,reduceCtorEq,Nat.reduceBEq,reduceLT,dJ])|((first|apply aB|apply aC|apply aA)<;>intro h<;>try simp only [h]))
      refine aR (aN (s':=osS code cv (k5,s5,x.i,y)) _ rfl ⟨⟨rfl,rfl⟩,⟨rfl,rfl⟩,⟨rfl,rfl⟩,⟨rfl,rfl⟩,trivial⟩) ?_
      exact rest.out (k5,s5,x.i,y) ⟨by simp only; omega,by simp only; omega,⟨hxb.1,hxb.2.1⟩,hyb⟩
 case b =>
  rintro ⟨k',s',id,hold⟩ ⟨b1,b2,hid,hho⟩
  simp only at b1 b2 hid hho
  simp only [osS]
  repeat' (first|(simp only [aD,↓wA,↓wC,wB,aF,aE,reduceEqDiff,reduceAdd,reduceSub,reduceIte,reduceCtorEq,Nat.reduceBEq,reduceLT,dJ])|((first|apply aB|apply aC|apply aA)<;>intro h<;>try simp only [h]))
  refine aZ (yO code cv k' s' 40 hc (by omega)) rfl rfl rfl (bB code cv rfl rfl) ?_
  rintro _ _ ⟨b,k1,s1,rfl,rfl,hk1,hk1'⟩
  refine ⟨⟨rfl,rfl⟩,?_⟩
  cases b with
  | true =>
   repeat' (first|(simp only [aD,↓wA,↓wC,wB,aF,aE,reduceEqDiff,reduceAdd,reduceSub,reduceIte,reduceCtorEq,Nat.reduceBEq,reduceLT,dJ])|((first|apply aB|apply aC|apply aA)<;>intro h<;>try simp only [h]))
   refine cJ 5 ?_
   simp only [i6,iV,gZ,D.unown,↓wA,↓wC,wB,aF,aE,reduceEqDiff,reduceAdd,reduceSub,reduceIte,reduceCtorEq,Nat.reduceBEq,reduceLT,dJ]
   refine aZ (b8 code cv k1 s1 [0,7,6] hc (by omega) (by simp) (by simp)) rfl rfl rfl (bB code cv rfl rfl) ?_
   rintro _ _ ⟨a,k2,s2,rfl,rfl,hk2,hk2',hma⟩
   refine ⟨⟨rfl,rfl⟩,?_⟩
   repeat' (first|(simp only [aD,↓wA,↓wC,wB,aF,aE,reduceEqDiff,reduceAdd,reduceSub,reduceIte,reduceCtorEq,Nat.reduceBEq,reduceLT,dJ])|((first|apply aB|apply aC|apply aA)<;>intro h<;>try simp only [h]))
   refine cJ 6 ?_
   simp only [i6,iV,gZ,D.unown,↓wA,↓wC,wB,aF,aE,reduceEqDiff,reduceAdd,reduceSub,reduceIte,reduceCtorEq,Nat.reduceBEq,reduceLT,dJ]
   refine aZ (b8 code cv k2 s2 [0,id,1000] hc (by omega) (by simp) (by simp)) rfl rfl rfl (bB code cv rfl rfl) ?_
   rintro _ _ ⟨i,k3,s3,rfl,rfl,hk3,hk3',hmi⟩
   refine ⟨⟨rfl,rfl⟩,?_⟩
   repeat' (first|(simp only [aD,↓wA,↓wC,wB,aF,aE,reduceEqDiff,reduceAdd,reduceSub,reduceIte,reduceCtorEq,Nat.reduceBEq,reduceLT,dJ])|((first|apply aB|apply aC|apply aA)<;>intro h<;>try simp only [h]))
   refine cJ 7 ?_
   simp only [i6,iV,gZ,D.unown,↓wA,↓wC,wB,aF,aE,reduceEqDiff,reduceAdd,reduceSub,reduceIte,reduceCtorEq,Nat.reduceBEq,reduceLT,dJ]
   refine aZ (b8 code cv k3 s3 [0,1] hc (by omega) (by simp) (by simp)) rfl rfl rfl (bB code cv rfl rfl) ?_
   rintro _ _ ⟨c,k4,s4,rfl,rfl,hk4,hk4',hmc⟩
   refine ⟨⟨rfl,rfl⟩,?_⟩
   repeat' (first|(simp only [aD,↓wA,↓wC,wB,aF,aE,reduceEqDiff,reduceAdd,reduceSub,reduceIte,reduceCtorEq,Nat.reduceBEq,reduceLT,dJ])|((first|apply aB|apply aC|apply aA)<;>intro h<;>try simp only [h]))
   refine cJ 8 ?_
   simp only [i6,iV,gZ,D.unown,↓wA,↓wC,wB,aF,aE,reduceEqDiff,reduceAdd,reduceSub,reduceIte,reduceCtorEq,Nat.reduceBEq,reduceLT,dJ]
   refine aZ (b8 code cv k4 s4 [0,1,-1] hc (by omega) (by simp) (by simp)) rfl rfl rfl (bB code cv rfl rfl) ?_
   rintro _ _ ⟨v,k5,s5,rfl,rfl,hk5,hk5',hmv⟩
   refine ⟨⟨rfl,rfl⟩,?_⟩
   repeat' (first|(simp only [aD,zT,↓wA,↓wC,wB,aF,aE,reduceEqDiff,reduceAdd,reduceSub,reduceIte,reduceCtorEq,Nat.reduceBEq,reduceLT,dJ])|((first|apply aB|apply aC|apply aA)<;>intro h<;>try simp only [h]))
   simp only [List.mem_cons,List.not_mem_nil,or_false] at hma hmi hmc hmv
   exact ⟨⟨a,i,c,v⟩,k5,s5,rfl,rfl,by omega,by omega,by unfold vE; simp only; omega⟩
  | false =>
   repeat' (first|(simp only [aD,↓wA,↓wC,wB,aF,aE,reduceEqDiff,reduceAdd,reduceSub,reduceIte,reduceCtorEq,Nat.reduceBEq,reduceLT,dJ])|((first|apply aB|apply aC|apply aA)<;>intro h<;>try simp only [h]))
   refine aZ (e9 code cv k1 s1 9 hc (by omega)) rfl rfl rfl (bB code cv rfl rfl) ?_
   rintro _ _ ⟨p,k2,s2,rfl,rfl,hk2,hk2',hp,hp'⟩
   refine ⟨⟨rfl,rfl⟩,?_⟩
   repeat' (first|(simp only [aD,zT,↓wA,↓wC,wB,aF,aE,reduceEqDiff,reduceAdd,reduceSub,reduceIte,reduceCtorEq,Nat.reduceBEq,reduceLT,dJ])|((first|apply aB|apply aC|apply aA)<;>intro h<;>try simp only [h]))
   ·refine cJ 5 ?_
    simp only [i6,iV,gZ,D.unown,↓wA,↓wC,wB,aF,aE,reduceEqDiff,reduceAdd,reduceSub,reduceIte,reduceCtorEq,Nat.reduceBEq,reduceLT,dJ]
    refine aZ (b8 code cv k2 s2 [1,5,30,100,20001,0] hc (by omega) (by simp) (by simp)) rfl rfl rfl (bB code cv rfl rfl) ?_
    rintro _ _ ⟨v,k3,s3,rfl,rfl,hk3,hk3',hmv⟩
    refine ⟨⟨rfl,rfl⟩,?_⟩
    repeat' (first|(simp only [aD,zT,↓wA,↓wC,wB,aF,aE,reduceEqDiff,reduceAdd,reduceSub,reduceIte,reduceCtorEq,Nat.reduceBEq,reduceLT,dJ])|((first|apply aB|apply aC|apply aA)<;>intro h<;>try simp only [h]))
    have hv:=iJ (a:=-1) (b:=20001) hmv (by decide)
    exact ⟨⟨_,_,_,_⟩,k3,s3,rfl,rfl,by omega,by omega,by unfold vE; simp only; omega⟩
   ·refine cJ 5 ?_
    simp only [i6,iV,gZ,D.unown,↓wA,↓wC,wB,aF,aE,reduceEqDiff,reduceAdd,reduceSub,reduceIte,reduceCtorEq,Nat.reduceBEq,reduceLT,dJ]
    refine aZ (b8 code cv k2 s2 [1,5,30,100,20001,0] hc (by omega) (by simp) (by simp)) rfl rfl rfl (bB code cv rfl rfl) ?_
    rintro _ _ ⟨v,k3,s3,rfl,rfl,hk3,hk3',hmv⟩
    refine ⟨⟨rfl,rfl⟩,?_⟩
    repeat' (first|(simp only [aD,zT,↓wA,↓wC,wB,aF,aE,reduceEqDiff,reduceAdd,reduceSub,reduceIte,reduceCtorEq,Nat.reduceBEq,reduceLT,dJ])|((first|apply aB|apply aC|apply aA)<;>intro h<;>try simp only [h]))
    have hv:=iJ (a:=-1) (b:=20001) hmv (by decide)
    exact ⟨⟨_,_,_,_⟩,k3,s3,rfl,rfl,by omega,by omega,by unfold vE; simp only; omega⟩
   ·refine cJ 5 ?_
    simp only [i6,iV,gZ,D.unown,↓wA,↓wC,wB,aF,aE,reduceEqDiff,reduceAdd,reduceSub,reduceIte,reduceCtorEq,Nat.reduceBEq,reduceLT,dJ]
    refine aZ (b8 code cv k2 s2 [1,12,40,77,500,998,999,1000] hc (by omega) (by simp) (by simp)) rfl rfl rfl (bB code cv rfl rfl) ?_
    rintro _ _ ⟨i,k3,s3,rfl,rfl,hk3,hk3',hmi⟩
    refine ⟨⟨rfl,rfl⟩,?_⟩
    repeat' (first|(simp only [aD,zT,↓wA,↓wC,wB,aF,aE,reduceEqDiff,reduceAdd,reduceSub,reduceIte,reduceCtorEq,Nat.reduceBEq,reduceLT,dJ])|((first|apply aB|apply aC|apply aA)<;>intro h<;>try simp only [h]))
    refine cJ 6 ?_
    simp only [i6,iV,gZ,D.unown,↓wA,↓wC,wB,aF,aE,reduceEqDiff,reduceAdd,reduceSub,reduceIte,reduceCtorEq,Nat.reduceBEq,reduceLT,dJ]
    refine aZ (b8 code cv k3 s3 [1,2,3,3,3,4] hc (by omega) (by simp) (by simp)) rfl rfl rfl (bB code cv rfl rfl) ?_
    rintro _ _ ⟨c,k4,s4,rfl,rfl,hk4,hk4',hmc⟩
    refine ⟨⟨rfl,rfl⟩,?_⟩
    repeat' (first|(simp only [aD,zT,↓wA,↓wC,wB,aF,aE,reduceEqDiff,reduceAdd,reduceSub,reduceIte,reduceCtorEq,Nat.reduceBEq,reduceLT,dJ])|((first|apply aB|apply aC|apply aA)<;>intro h<;>try simp only [h]))
    refine cJ 7 ?_
    simp only [i6,iV,gZ,D.unown,↓wA,↓wC,wB,aF,aE,reduceEqDiff,reduceAdd,reduceSub,reduceIte,reduceCtorEq,Nat.reduceBEq,reduceLT,dJ]
    refine aZ (b8 code cv k4 s4 [0,5,5,30,20001,-1] hc (by omega) (by simp) (by simp)) rfl rfl rfl (bB code cv rfl rfl) ?_
    rintro _ _ ⟨v,k5,s5,rfl,rfl,hk5,hk5',hmv⟩
    refine ⟨⟨rfl,rfl⟩,?_⟩
    repeat' (first|(simp only [aD,zT,↓wA,↓wC,wB,aF,aE,reduceEqDiff,reduceAdd,reduceSub,reduceIte,reduceCtorEq,Nat.reduceBEq,reduceLT,dJ])|((first|apply aB|apply aC|apply aA)<;>intro h<;>try simp only [h]))
    have hi:=iJ (a:=0) (b:=1000) hmi (by decide)
    have hc:=iJ (a:=0) (b:=4) hmc (by decide)
    have hv:=iJ (a:=-1) (b:=20001) hmv (by decide)
    exact ⟨⟨_,_,_,_⟩,k5,s5,rfl,rfl,by omega,by omega,by unfold vE; simp only; omega⟩
   ·refine cJ 5 ?_
    simp only [i6,iV,gZ,D.unown,↓wA,↓wC,wB,aF,aE,reduceEqDiff,reduceAdd,reduceSub,reduceIte,reduceCtorEq,Nat.reduceBEq,reduceLT,dJ]
    refine aZ (b8 code cv k2 s2 [1,12,40,77,500,998,999,1000] hc (by omega) (by simp) (by simp)) rfl rfl rfl (bB code cv rfl rfl) ?_
    rintro _ _ ⟨i,k3,s3,rfl,rfl,hk3,hk3',hmi⟩
    refine ⟨⟨rfl,rfl⟩,?_⟩
    repeat' (first|(simp only [aD,zT,↓wA,↓wC,wB,aF,aE,reduceEqDiff,reduceAdd,reduceSub,reduceIte,reduceCtorEq,Nat.reduceBEq,reduceLT,dJ])|((first|apply aB|apply aC|apply aA)<;>intro h<;>try simp only [h]))
    refine cJ 6 ?_
    simp only [i6,iV,gZ,D.unown,↓wA,↓wC,wB,aF,aE,reduceEqDiff,reduceAdd,reduceSub,reduceIte,reduceCtorEq,Nat.reduceBEq,reduceLT,dJ]
    refine aZ (b8 code cv k3 s3 [1,2,3,3,3,4] hc (by omega) (by simp) (by simp)) rfl rfl rfl (bB code cv rfl rfl) ?_
    rintro _ _ ⟨c,k4,s4,rfl,rfl,hk4,hk4',hmc⟩
    refine ⟨⟨rfl,rfl⟩,?_⟩
    repeat' (first|(simp only [aD,zT,↓wA,↓wC,wB,aF,aE,reduceEqDiff,reduceAdd,reduceSub,reduceIte,reduceCtorEq,Nat.reduceBEq,reduceLT,dJ])|((first|apply aB|apply aC|apply aA)<;>intro h<;>try simp only [h]))
    refine cJ 7 ?_
    simp only [i6,iV,gZ,D.unown,↓wA,↓wC,wB,aF,aE,reduceEqDiff,reduceAdd,reduceSub,reduceIte,reduceCtorEq,Nat.reduceBEq,reduceLT,dJ]
    refine aZ (b8 code cv k4 s4 [0,5,5,30,20001,-1] hc (by omega) (by simp) (by simp)) rfl rfl rfl (bB code cv rfl rfl) ?_
    rintro _ _ ⟨v,k5,s5,rfl,rfl,hk5,hk5',hmv⟩
    refine ⟨⟨rfl,rfl⟩,?_⟩
    repeat' (first|(simp only [aD,zT,↓wA,↓wC,wB,aF,aE,reduceEqDiff,reduceAdd,reduceSub,reduceIte,reduceCtorEq,Nat.reduceBEq,reduceLT,dJ])|((first|apply aB|apply aC|apply aA)<;>intro h<;>try simp only [h]))
    have hi:=iJ (a:=0) (b:=1000) hmi (by decide)
    have hc:=iJ (a:=0) (b:=4) hmc (by decide)
    have hv:=iJ (a:=-1) (b:=20001) hmv (by decide)
    exact ⟨⟨_,_,_,_⟩,k5,s5,rfl,rfl,by omega,by omega,by unfold vE; simp only; omega⟩
   ·exact ⟨⟨_,_,_,_⟩,k2,s2,rfl,rfl,by omega,by omega,by unfold vE; simp only; omega⟩
   ·exact ⟨⟨_,_,_,_⟩,k2,s2,rfl,rfl,by omega,by omega,by unfold vE; simp only; omega⟩
   ·refine cJ 5 ?_
    simp only [i6,iV,gZ,D.unown,↓wA,↓wC,wB,aF,aE,reduceEqDiff,reduceAdd,reduceSub,reduceIte,reduceCtorEq,Nat.reduceBEq,reduceLT,dJ]
    refine aZ (b8 code cv k2 s2 [1,10,20001,0] hc (by omega) (by simp) (by simp)) rfl rfl rfl (bB code cv rfl rfl) ?_
    rintro _ _ ⟨v,k3,s3,rfl,rfl,hk3,hk3',hmv⟩
    refine ⟨⟨rfl,rfl⟩,?_⟩
    repeat' (first|(simp only [aD,zT,↓wA,↓wC,wB,aF,aE,reduceEqDiff,reduceAdd,reduceSub,reduceIte,reduceCtorEq,Nat.reduceBEq,reduceLT,dJ])|((first|apply aB|apply aC|apply aA)<;>intro h<;>try simp only [h]))
    have hv:=iJ (a:=-1) (b:=20001) hmv (by decide)
    exact ⟨⟨_,_,_,_⟩,k3,s3,rfl,rfl,by omega,by omega,by unfold vE; simp only; omega⟩
   ·exact ⟨⟨_,_,_,_⟩,k2,s2,rfl,rfl,by omega,by omega,by unfold vE; simp only; omega⟩
end Go.Pe.Tryz
set_option maxRecDepth 100000
set_option linter.all false
namespace Go.Pe.Tryz
open Nat (reduceEqDiff reduceAdd reduceSub reduceLT)
open Go.Proofs.Tryz
def vwS (r:Nat) (y:D) (s:SV):SV:=match s with
 | .vw q=>if q=r then .d y else .vw q
 | s=>if cW r s=true then .any else s
def vwE (r:Nat) (y:D):eA->eA
 | []=>[]
 |(k,s) :: e=>(k,vwS r y s) :: vwE r y e
theorem aAs (r:Nat) (y:D):∀ (e:eA) (t:Nat),look (vwE r y e) t=vwS r y (look e t)
 | [],_=>rfl
 |(k,s) :: e,t=>by
  simp only [vwE,look]
  split
  ·rfl
  ·exact aAs r y e t
theorem aAV:∀ x:D,x.unown.noOwn=true:=by
 intro x
 induction x<;>simp_all [D.unown,D.noOwn]
theorem aHi {s:St} (r tp:Nat) {xs:D} (h1:s.o[r]?=some (.box (.st xs))) (hp:look s.e tp=.ptr r 0 []):cT s ⟨vwE r (.st xs.unown) s.e,s.o.set r (.box (.st xs.unown))⟩:=by
 intro c C a w h
 obtain ⟨C',k⟩:=freeze r none [] (x:=.st xs) (ob':=.box (.st xs.unown)) h1 rfl rfl c C a w h
 have hr:=aK h1
 refine ⟨C',k.tmps,k.defers,fun t=>?_,k.wd,k.fix⟩
 have e1:=k.env t
 have e0:=h.env t
 rw [lK] at e1
 show a6 w (Ms c C') C' (look (vwE r (.st xs.unown) s.e) t) _
 rw [aAs]
 cases hs:look s.e t with
 | vw q =>
  rw [hs] at e0 e1
  by_cases hq:q=r
  ·subst hq
   obtain ⟨oc,cs,c1,c2,c3,c4⟩:=e0
   have p0:=h.env tp
   have p1:=k.env tp
   rw [lK] at p1
   rw [hp] at p0 p1
   simp only [cW,List.any_cons,List.any_nil,Bool.or_false,Bool.false_eq_true,if_false] at p1
   obtain ⟨ob0,q1,q2⟩:=p0
   obtain ⟨oc',r1,r2⟩:=p1
   rw [c1] at q1
   cases q1
   rw [q2] at r2
   have hb:oc'.blk=oc.blk:=by
    injection r2 with r2
    injection r2 with r2
    injection r2 with r2
    exact r2.symm
   obtain ⟨cs',fps,o1,o2,o3⟩:=k.wd.obs q (.box (.st xs.unown)) oc' (by rw [List.getElem?_set]; simp [hr]) r1
   rw [hb] at o1
   have e:=c3.eq o1
   subst e
   have e:=iF _ _ _ (aAV (.st xs)) o2
   subst e
   rw [vwS]
   simp only [if_true]
   exact ⟨cs,o2,c4⟩
  ·have e:([r].any fun r=>cW r (.vw q))=false:=by simp [cW,hq]
   rw [e] at e1
   simp only [vwS,hq,if_false]
   exact e1
 | _ =>
  rw [hs] at e1
  simpa [vwS] using e1
end Go.Pe.Tryz
set_option maxRecDepth 100000
set_option maxHeartbeats 2000000
set_option linter.all false
namespace Go.Pe.Tryz
open Nat (reduceEqDiff reduceAdd reduceSub reduceLT)
theorem aBc {xs:List Cs}:mM xs=true↔(∀ x∈xs,dP x=true)/\xs.Pairwise (fun x y=>x.i < y.i):=by
 constructor
 ·intro h
  have h1:∀ {j:Nat} {x:Cs},xs[j]?=some x->dP x=true/\ltC xs j x=true:=fun {j x} hx=>by
   have:=List.all_eq_true.1 h j (List.mem_range.2 (aK hx))
   rw [n8 hx,Bool.and_eq_true] at this
   exact this
  refine ⟨fun x hx=>?_,?_⟩
  ·obtain ⟨j,hj⟩:=List.getElem?_of_mem hx
   exact (h1 hj).1
  ·have key:∀ n i x y,xs[i]?=some x->xs[i + n + 1]?=some y->x.i < y.i:=by
    intro n
    induction n with
    | zero =>
     intro i x y hx hy
     have:=(h1 hy).2
     simp only [Nat.add_zero,ltC,hx] at this
     exact of_decide_eq_true this
    | succ n ih =>
     intro i x y hx hy
     obtain ⟨z,hz⟩:=bM (show i + n + 1 < xs.length by have:=aK hy; omega)
     have a:=ih i x z hx hz
     have b:=(h1 hy).2
     have hy':ltC xs (i + n + 1 + 1) y=decide (z.i < y.i):=by simp only [ltC,hz]
     rw [show i + (n + 1) + 1=i + n + 1 + 1 by omega,hy'] at b
     have:=of_decide_eq_true b
     omega
   rw [List.pairwise_iff_getElem]
   intro i j hi hj hij
   refine key (j - i - 1) i _ _ (List.getElem?_eq_getElem hi) ?_
   rw [show i + (j - i - 1) + 1=j by omega]
   exact List.getElem?_eq_getElem hj
 ·rintro ⟨h1,h2⟩
  refine nU fun j hj=>?_
  obtain ⟨x,hx⟩:=bM hj
  rw [n8 hx,h1 x (List.mem_of_getElem? hx),Bool.true_and]
  cases j with
  | zero=>rfl
  | succ k =>
   obtain ⟨y,hy⟩:=bM (show k < xs.length by omega)
   simp only [ltC,hy]
   rw [List.pairwise_iff_getElem] at h2
   have:=h2 k (k + 1) (by omega) hj (by omega)
   rw [List.getElem?_eq_getElem (by omega)] at hx hy
   injection hx with hx
   injection hy with hy
   rw [hx,hy] at this
   exact decide_eq_true this
theorem aJ1 {xs:List Cs} (h:xs.Pairwise (fun x y=>x.i < y.i)) {x y:Cs} (hx:x∈xs) (hy:y∈xs) (e:x.i=y.i):x=y:=by
 induction xs with
 | nil=>cases hx
 | cons a t ih =>
  rw [List.pairwise_cons] at h
  rcases List.mem_cons.1 hx with h1|h1<;>rcases List.mem_cons.1 hy with h2|h2
  ·rw [h1,h2]
  ·have:=h.1 y h2; rw [h1] at e; omega
  ·have:=h.1 x h1; rw [h2] at e; omega
  ·exact ih h.2 h1 h2
theorem aGV {o:Off} (h:bN o=true) {x y:Cs} (hx:x∈o.cs) (hy:y∈o.cs) (e:x.i=y.i):x=y:=by
 rw [bN,Bool.and_eq_true] at h
 exact aJ1 (aBc.1 h.2).2 hx hy e
theorem aCL {p:Cs->Bool} {xs:List Cs} {n:Int}:n∈iX p xs↔∃ x∈xs,p x=true/\x.i=n:=by
 simp only [iX,List.mem_map,List.mem_filter]
 exact ⟨fun ⟨x,⟨a,b⟩,c⟩=>⟨x,a,b,c⟩,fun ⟨x,a,b,c⟩=>⟨x,⟨a,b⟩,c⟩⟩
theorem uH {o q:Off} {k id a v:Int} (h:d6 o k id a v=some q):bN o=true/\wT o k id a v=some q:=by
 unfold d6 at h
 split at h
 ·rename_i hw
  rw [Bool.and_eq_true] at hw
  refine ⟨hw.1,?_⟩
  cases hm:wT o k id a v with
  | none=>rw [hm] at h; cases h
  | some o' =>
   rw [hm] at h
   simp only [Option.filter] at h
   split at h
   ·exact h
   ·cases h
 ·cases h
theorem mk6 {o q:Off} {id a v:Int} (h:wT o 6 id a v=some q):∃ (i:Nat) (x:Cs),o.cs[i]?=some x/\x.i=id/\bP o x=true/\q=fU o i x:=by
 unfold wT at h
 rw [if_neg (by decide)] at h
 split at h
 ·cases h
 rw [if_neg (by decide),if_neg (by decide)] at h
 rcases lC o.cs id with ⟨_,hn⟩|⟨i,x,hi,hr,hx⟩
 ·rw [if_neg (of_decide_eq_false hn)] at h; cases h
 rw [hi,if_pos (by omega),Int.toNat_natCast,hr] at h
 simp only at h
 rw [if_neg (by decide),if_neg (by decide),if_pos trivial] at h
 split at h
 ·rename_i hd
  injection h with h
  exact ⟨i,x,hr,hx,hd.2,h.symm⟩
 ·cases h
theorem aHV {o q:Off} {id a v:Int} (h:d6 o 6 id a v=some q):(iX (aC3 o) o.cs).contains id=true/\(iX (y4 o) o.cs).contains id=false/\(q.cs.length:Int) + q.kept + q.moved + q.led.length=o.cs.length + o.kept + o.moved + o.led.length:=by
 obtain ⟨ho,hm⟩:=uH h
 obtain ⟨i,x,hr,hx,hd,rfl⟩:=mk6 hm
 have hd0:=hd
 unfold bP at hd
 rw [Bool.and_eq_true] at hd
 have hlt:=aK hr
 refine ⟨List.contains_iff_mem.2 (aCL.2 ⟨x,List.mem_of_getElem? hr,hd.1,hx⟩),?_,?_⟩
 ·cases hc:(iX (y4 o) o.cs).contains id with
  | false=>rfl
  | true =>
   obtain ⟨y,hy,hb,hi⟩:=aCL.1 (List.contains_iff_mem.1 hc)
   have:=aGV ho hy (List.mem_of_getElem? hr) (hi.trans hx.symm)
   subst this
   simp only [y4,Bool.and_eq_true,decide_eq_true_eq] at hb
   simp only [Bool.or_eq_true,decide_eq_true_eq] at hd
   omega
 ·have hl:(o.cs.eraseIdx i).length=o.cs.length - 1:=List.length_eraseIdx_of_lt hlt
  unfold fU
  split
  ·simp only [hl]; omega
  ·split
   ·simp only [hl]; omega
   ·simp only [hl,List.length_append,List.length_singleton]; omega
theorem aHF {o q:Off} {k id a v:Int} (h:d6 o k id a v=some q) (hk:k≠6):q.led.length=o.led.length:=by
 obtain ⟨ho,hm⟩:=uH h
 unfold wT at hm
 repeat' (split at hm)
 all_goals first|exact absurd ‹k=6› hk|(injection hm with hm; subst hm; rfl)|cases hm
end Go.Pe.Tryz
set_option maxRecDepth 100000
set_option maxHeartbeats 4000000
set_option linter.all false
namespace Go.Pe.Tryz
open Nat (reduceEqDiff reduceAdd reduceSub reduceLT)
open Go.Proofs.Tryz
theorem aIE (code:List UInt8):Fn prog 5 [.sl false 1 (bH code)] (fun rs=>rs=[.bool (decide ((65536:Int) < (code.length:Int)))]):=by
 refine a8 (fn:=f5) (by exact func5) c5 r5 (n:=6) (by rfl) (rv:=[.tmp 2]) (by rfl) (by simp) ?_
 unfold m5
 try simp only [wQ]
 repeat' (first|(simp only [e7,↓wA,↓wC,wB,aF,aE,reduceEqDiff,reduceAdd,reduceSub,reduceIte,reduceCtorEq,Nat.reduceBEq,reduceLT])|((first|apply aB|apply aC|apply aA)<;>intro h<;>try simp only [h]))
theorem aBe (v:List Int) (hlen:v.length<=1048576):Fn prog 23 [.sl false 1 (dl iD v),.sl false 1 (dl iD v)] (fun rs=>rs=[.bool true]):=by
 refine a8 (fn:=f23) (by exact func23) c23 r23 (n:=26) (by rfl) (rv:=[.tmp 4]) (by rfl) (by simp) ?_
 unfold m23
 try simp only [wQ]
 repeat' (first|(simp only [aJ,↓wA,↓wC,wB,aF,aE,reduceEqDiff,reduceAdd,reduceSub,reduceIte,reduceCtorEq,Nat.reduceBEq,reduceLT])|((first|apply aB|apply aC|apply aA)<;>intro h<;>try simp only [h]))
 refine bL v.length (fun i:Nat=>⟨[(0,.d (.sl false 1 (dl iD v))),(1,.d (.sl false 1 (dl iD v))),(5,.d (.int .i64 i))],[]⟩) (fun _=>True) (aN _ rfl ⟨⟨rfl,rfl⟩,⟨rfl,rfl⟩,⟨rfl,rfl⟩,trivial⟩) trivial ?_ ?_
 ·intro i hlt _ hd h0
  obtain ⟨r,hr⟩:=bM hlt
  repeat' (first|(simp only [aJ,aX,hd,Int.toNat_natCast,hr,Option.map_some,h0,aD,↓iM,↓wA,↓wC,wB,aF,aE,reduceEqDiff,reduceAdd,reduceSub,reduceIte,reduceCtorEq,Nat.reduceBEq,reduceLT])|(with_reducible refine aI ?_ ?_; focus (simp only [bQ]; omega))|((first|apply aB|apply aC|apply aA)<;>intro h<;>try simp only [h]))
  exact ⟨i + 1,(aN _ rfl ⟨⟨rfl,rfl⟩,⟨rfl,rfl⟩,⟨rfl,rfl⟩,trivial⟩),by omega,by omega⟩
 ·intro _ hd
  repeat' (first|(simp only [aJ,hd,↓wA,↓wC,wB,aF,aE,reduceEqDiff,reduceAdd,reduceSub,reduceIte,reduceCtorEq,Nat.reduceBEq,reduceLT])|((first|apply aB|apply aC|apply aA)<;>intro h<;>try simp only [h]))
theorem aCy (v:List Int) (n:Int) (hlen:v.length<=1048576):Fn prog 14 [.sl false 1 (dl iD v),.int .i64 n] (fun rs=>rs=[.bool (v.contains n)]):=by
 rw [<- jU]
 refine a8 (fn:=f14) (by exact func14) c14 r14 (n:=18) (by rfl) (rv:=[.tmp 4]) (by rfl) (by simp) ?_
 unfold m14
 try simp only [wQ]
 repeat' (first|(simp only [aJ,↓wA,↓wC,wB,aF,aE,reduceEqDiff,reduceAdd,reduceSub,reduceIte,reduceCtorEq,Nat.reduceBEq,reduceLT])|((first|apply aB|apply aC|apply aA)<;>intro h<;>try simp only [h]))
 refine bL v.length (fun i:Nat=>⟨[(0,.d (.sl false 1 (dl iD v))),(1,.d (.int .i64 n)),(5,.d (.int .i64 i))],[]⟩) (fun i=>∀ j r,j < i->v[j]?=some r->decide (n=r)=false) (aN _ rfl ⟨⟨rfl,rfl⟩,⟨rfl,rfl⟩,⟨rfl,rfl⟩,trivial⟩) (fun j r hj=>by omega) ?_ ?_
 ·intro i hlt hinv hd h0
  obtain ⟨r,hr⟩:=bM hlt
  have hsym:decide (r=n)=decide (n=r):=decide_eq_decide.2 eq_comm
  repeat' (first|(simp only [aJ,aX,hd,Int.toNat_natCast,hr,Option.map_some,h0,aD,↓iM,hsym,↓wA,↓wC,wB,aF,aE,reduceEqDiff,reduceAdd,reduceSub,reduceIte,reduceCtorEq,Nat.reduceBEq,reduceLT])|(with_reducible refine aI ?_ ?_; focus (simp only [bQ]; omega))|((first|apply aB|apply aC|apply aA)<;>intro h<;>try simp only [h]))
  ·have:v.any (fun x=>decide (n=x))=true:=List.any_eq_true.2 ⟨r,List.mem_of_getElem? hr,h⟩
   rw [this]
  ·refine cK (aN _ rfl ⟨⟨rfl,rfl⟩,⟨rfl,rfl⟩,⟨rfl,rfl⟩,trivial⟩) hlt fun j s hj hs=>?_
   by_cases e:j=i
   ·subst e; rw [hr] at hs; injection hs with hs; rw [<- hs]; exact h
   ·exact hinv j s (by omega) hs
 ·intro hinv hd
  have:v.any (fun x=>decide (n=x))=false:=by
   rw [List.any_eq_false]
   intro x hx
   obtain ⟨j,hj⟩:=List.getElem?_of_mem hx
   simp [hinv j x (aK hj) hj]
  rw [this]
  repeat' (first|(simp only [aJ,hd,↓wA,↓wC,wB,aF,aE,reduceEqDiff,reduceAdd,reduceSub,reduceIte,reduceCtorEq,Nat.reduceBEq,reduceLT])|((first|apply aB|apply aC|apply aA)<;>intro h<;>try simp only [h]))
theorem aAU (L:List (List UInt8)) (hlen:L.length<=1048576):Fn prog 43 [.sl false 1 (dl D.str L),.sl false 1 (dl D.str L)] (fun rs=>rs=[.bool true]):=by
 refine a8 (fn:=f43) (by exact func43) c43 r43 (n:=26) (by rfl) (rv:=[.tmp 4]) (by rfl) (by simp) ?_
 unfold m43
 try simp only [wQ]
 repeat' (first|(simp only [aJ,↓wA,↓wC,wB,aF,aE,reduceEqDiff,reduceAdd,reduceSub,reduceIte,reduceCtorEq,Nat.reduceBEq,reduceLT])|((first|apply aB|apply aC|apply aA)<;>intro h<;>try simp only [h]))
 refine bL L.length (fun i:Nat=>⟨[(0,.d (.sl false 1 (dl D.str L))),(1,.d (.sl false 1 (dl D.str L))),(5,.d (.int .i64 i))],[]⟩) (fun _=>True) (aN _ rfl ⟨⟨rfl,rfl⟩,⟨rfl,rfl⟩,⟨rfl,rfl⟩,trivial⟩) trivial ?_ ?_
 ·intro i hlt _ hd h0
  obtain ⟨r,hr⟩:=bM hlt
  repeat' (first|(simp only [aJ,aX,hd,Int.toNat_natCast,hr,Option.map_some,h0,aD,decide_true,↓wA,↓wC,wB,aF,aE,reduceEqDiff,reduceAdd,reduceSub,reduceIte,reduceCtorEq,Nat.reduceBEq,reduceLT])|(with_reducible refine aI ?_ ?_; focus (simp only [bQ]; omega))|((first|apply aB|apply aC|apply aA)<;>intro h<;>try simp only [h]))
  all_goals exact ⟨i + 1,(aN _ rfl ⟨⟨rfl,rfl⟩,⟨rfl,rfl⟩,⟨rfl,rfl⟩,trivial⟩),by omega,by omega⟩
 ·intro _ hd
  repeat' (first|(simp only [aJ,hd,↓wA,↓wC,wB,aF,aE,reduceEqDiff,reduceAdd,reduceSub,reduceIte,reduceCtorEq,Nat.reduceBEq,reduceLT])|((first|apply aB|apply aC|apply aA)<;>intro h<;>try simp only [h]))
theorem nD (o:Off) (ho:o.ok0):Fn prog 9 [o.s,o.s] (fun rs=>rs=[.bool true]):=by
 have h2:=aAU o.led ho.2.1
 have hlen:=ho.1.1
 refine a8 (fn:=f9) (by exact func9) c9 r9 (n:=108) (by rfl) (rv:=[.tmp 4]) (by rfl) (by simp) ?_
 unfold m9
 try simp only [wQ]
 simp only [Off.s,bD]
 repeat' (first|(simp only [aM,aL,aD,decide_true,aJ,↓wA,↓wC,wB,aF,aE,reduceEqDiff,reduceAdd,reduceSub,reduceIte,reduceCtorEq,Nat.reduceBEq,reduceLT])|(refine aG h2 rfl rfl ?_)|((first|apply aB|apply aC|apply aA)<;>intro h<;>try simp only [h]))
 refine bL o.cs.length (fun i:Nat=>⟨[(2,.ptr 0 0 []),(3,.ptr 1 0 []),(5,.d (.int .i64 i))],[.box o.s,.box o.s]⟩) (fun _=>True) (aN _ rfl ⟨⟨rfl,rfl⟩,⟨rfl,rfl⟩,⟨rfl,rfl⟩,trivial⟩) trivial ?_ ?_
 ·intro i hlt _ hd h0
  obtain ⟨r,hr⟩:=bM hlt
  have he:=aBe r.h (ho.1.2 r (List.mem_of_getElem? hr))
  repeat' (first|(simp only [Off.s,bD,aJ,aX,hd,Int.toNat_natCast,hr,Option.map_some,↓fS,uF,aI7,aBr,aFZ,h0,aM,aL,aS,aD,decide_true,↓wA,↓wC,wB,aF,aE,reduceEqDiff,reduceAdd,reduceSub,reduceIte,reduceCtorEq,Nat.reduceBEq,reduceLT])|(refine aH he rfl rfl ?_)|(with_reducible refine aI ?_ ?_; focus (simp only [bQ]; omega))|((first|apply aB|apply aC|apply aA)<;>intro h<;>try simp only [h]))
  all_goals exact ⟨i + 1,(aN _ rfl ⟨⟨rfl,rfl⟩,⟨rfl,rfl⟩,⟨rfl,rfl⟩,trivial⟩),by omega,by omega⟩
 ·intro _ hd
  repeat' (first|(simp only [Off.s,bD,aJ,hd,aM,aL,aD,↓wA,↓wC,wB,aF,aE,reduceEqDiff,reduceAdd,reduceSub,reduceIte,reduceCtorEq,Nat.reduceBEq,reduceLT])|((first|apply aB|apply aC|apply aA)<;>intro h<;>try simp only [h]))
end Go.Pe.Tryz
set_option maxRecDepth 100000
set_option maxHeartbeats 40000000
set_option linter.all false
namespace Go.Pe.Tryz
open Nat (reduceEqDiff reduceAdd reduceSub reduceLT)
open Go.Proofs.Tryz
def aEQ (n:Int):Off:=⟨n,[],0,0,[]⟩
theorem aAH (n:Int) (h1:0<=n) (h2:n<=20000):Fn prog 20 [.int .i64 n] (fun rs=>rs=[(aEQ n).w,.bool true]):=by
 have h:aU n 0 20000=true:=by simp [aU,h1,h2]
 refine a8 (fn:=f20) (by exact func20) c20 r20 (n:=12) (by rfl) (rv:=[.cell 2 27,.tmp 3]) (by rfl) (by simp) ?_
 unfold m20
 try simp only [wQ]
 try simp only [↓wA,↓wC,wB,aF,aE,reduceEqDiff,reduceAdd,reduceSub,reduceIte,reduceCtorEq,Nat.reduceBEq,reduceLT,aP]
 refine aG (qV n) rfl rfl ?_
 simp only [h,↓wA,↓wC,wB,aF,aE,reduceEqDiff,reduceAdd,reduceSub,reduceIte,reduceCtorEq,Nat.reduceBEq,reduceLT,aP]
 rfl
theorem aHR (n:Int) (h1:0<=n) (h2:n<=20000):bN (aEQ n)=true:=by
 simp [bN,aEQ,mK,mM,vL,aU,h1,h2]
theorem aGQ {s:St} {r:Nat} (o:Off) (tp:Nat) (h1:s.o[r]?=some (.box o.w)) (hp:look s.e tp=.ptr r 0 []):cT s ⟨vwE r o.s s.e,s.o.set r (.box o.s)⟩:=by
 have h:=aHi r tp h1 hp
 rw [show o.s=o.w.unown from (Off.w_unown o).symm]
 exact h
theorem aJg {l:List Ob} {r:Nat} {o:Off} (h:l[r]?=some (.box o.w)):bE l [.vw r]=some [o.s]:=by
 have e:l5 l r=some o.w:=by unfold l5; rw [h]
 simp only [bE,bV,e]
 show (match (some (D.st _):Option D),some ([]:List D) with|some x,some xs=>some (x :: xs)|_,_=>none)=_
 rw [show o.s=o.w.unown from (Off.w_unown o).symm]
 rfl
theorem aJB {l:List Ob} {r:Nat} {o:Off} {x:D} (h:l[r]?=some (.box o.w)):bE l [.vw r,.d x]=some [o.s,x]:=by
 have e:l5 l r=some o.w:=by unfold l5; rw [h]
 simp only [bE,bV,e]
 rw [show o.s=o.w.unown from (Off.w_unown o).symm]
 rfl
theorem aFJ {o:Off} {t:Stp} (ho:o.ok0) (h:fP o t.k t.i t.a t.v=false):Fn prog 8 [o.s,t.d] (fun rs=>rs=[rY.w,.bool false]):=by
 have h1:=mT o t.k t.i t.a t.v ho
 have e:fQ o t.k t.i t.a t.v=rY:=by
  unfold fQ
  unfold fP at h
  cases hq:d6 o t.k t.i t.a t.v with
  | none=>rfl
  | some q=>rw [hq] at h; cases h
 rw [h,e] at h1
 exact h1
theorem aEl {o:Off} {t:Stp} (ho:o.ok0) (h:fP o t.k t.i t.a t.v=true):∃ q:Off,bN q=true/\Fn prog 8 [o.s,t.d] (fun rs=>rs=[q.w,.bool true]):=by
 have h1:=mT o t.k t.i t.a t.v ho
 unfold fP at h
 cases hq:d6 o t.k t.i t.a t.v with
 | none=>rw [hq] at h; cases h
 | some q =>
  refine ⟨q,n6 hq,?_⟩
  unfold fQ fP at h1
  rw [hq] at h1
  exact h1
theorem aIb {o:Off}:dG [0] o.w=0:=rfl
theorem aIx {o:Off}:dG [2] o.w=2:=rfl
theorem aG7 {o:Off}:fC [0] o.w=some (.int .i64 o.day):=rfl
theorem aIq {o:Off}:fC [2] o.w=some (.int .i64 o.kept):=rfl
theorem aHZ {o:Off} {n:Int}:gG [0] o.w (.int .i64 n)=Off.w { o with day:=n }:=rfl
theorem aGZ {o:Off} {n:Int}:gG [2] o.w (.int .i64 n)=Off.w { o with kept:=n }:=rfl
theorem aH5 {o:Off} {x:D}:gG [1] o.w x=bD o x (.sl true 1 (dl D.str o.led)):=rfl
theorem aH1 {o:Off} {x:D}:gG [4] o.w x=bD o (.sl true 4 (dl Cs.s o.cs)) x:=rfl
theorem aAR {o:Off} {x y:D}:dG [1] (bD o x y)=1:=rfl
theorem zN {o:Off} {x y:D}:fC [1] (bD o x y)=some x:=rfl
theorem zK {o:Off} {x y z:D}:gG [1] (bD o x y) z=bD o z y:=rfl
theorem aFX {o:Off} {x y:D} {b:Bool}:dG [4] (bD o (.sl b 4 x) y)=4:=rfl
theorem aFS {o:Off} {x y:D}:fC [4] (bD o x y)=some y:=rfl
theorem aFi {o:Off} {x y z:D}:gG [4] (bD o x y) z=bD o x z:=rfl
theorem aFU {α:Type} {s t:St} {S:α->St} (h:eL s S) (k:∀ x,cT (S x) t):cT s t:=fun c C a w r=>by
 obtain ⟨x,C',r'⟩:=h c C a w r
 exact k x c C' a w r'
def csg (p:Cs×Bool):D:=if p.2=true then p.1.o else p.1.s
theorem aIQ (xs:List Cs):dl Cs.s xs=dl csg (xs.map fun c=>(c,false)):=by
 unfold dl
 rw [List.map_map]
 rfl
theorem aCM (xs:List Cs) (x:Cs):(dl Cs.s xs).app (D.cons x.o .nil)=dl csg ((xs.map fun c=>(c,false)) ++ [(x,true)]):=by
 rw [aIQ]
 exact eZ (f:=csg) _ (x,true)
theorem aIz (xs:List Cs) (x:Cs):dl csg ((xs.map fun c=>(c,false)) ++ [(x,false)])=dl Cs.s (xs ++ [x]):=by
 rw [aIQ,List.map_append]
 rfl
theorem aEw (xs:List Cs) (x:Cs):fD (.val (.sl true 4 ((dl Cs.s xs).app (D.cons x.o .nil)))) (some xs.length) [3]=some (.sl true 1 (dl iD x.h)):=by
 rw [aCM]
 simp only [fD,aX]
 have h:((xs.map fun c=>(c,false)) ++ [(x,true)])[xs.length]?=some (x,true):=by
  rw [List.getElem?_append_right (by simp)]
  simp
 rw [h]
 rfl
theorem aEb (xs:List Cs) (x:Cs):bR (.val (.sl true 4 ((dl Cs.s xs).app (D.cons x.o .nil)))) (some xs.length) [3] (D.unown (.sl true 1 (dl iD x.h)))=.val (.sl true 4 (dl Cs.s (xs ++ [x]))):=by
 rw [aCM]
 simp only [bR,aX]
 have h:((xs.map fun c=>(c,false)) ++ [(x,true)])[xs.length]?=some (x,true):=by
  rw [List.getElem?_append_right (by simp)]
  simp
 rw [h]
 have e:gG [3] ((Option.map csg (some (x,true))).getD .nil) (D.unown (.sl true 1 (dl iD x.h)))=csg (x,false):=by
  simp only [D.unown,cH]
  rfl
 rw [e,gD,<-aIz]
 congr 3
 rw [List.set_append_right _ _ (by simp)]
 simp
theorem aDS {o:Off} {x:Cs} {e:eA} {c0 c1 c2 c3 c4 c5:Ob} {l:List Ob} (h0:sZ 7 [c0,c1,c2,c3,c4,c5,.box (Off.w { o with cs:=o.cs ++ [x] })]=true) (hl:l.length=5):cT ⟨[(0,.ptr 0 0 []),(2,.ptr 3 0 []),(3,.ptr 6 0 [])],[c0,c1,c2,c3,c4,c5,.box (bD o (.sl true 4 ((dl Cs.s o.cs).app (D.cons x.o .nil))) (.sl true 1 (dl D.str o.led)))] ++ l⟩ ⟨[(0,.ptr 0 0 []),(2,.ptr 3 0 []),(3,.ptr 6 0 [])],[c0,c1,c2,c3,c4,c5,.box (Off.w { o with cs:=o.cs ++ [x] })]⟩:=by
 obtain ⟨l0,l1,l2,l3,l4,rfl⟩:∃ l0 l1 l2 l3 l4,l=[l0,l1,l2,l3,l4]:=by
  match l,hl with
  | [a,b,c,d,e],_=>exact ⟨a,b,c,d,e,rfl⟩
 refine aFU (cU 6 none [1] (es:=4) (xs:=(dl Cs.s o.cs).app (D.cons x.o .nil)) rfl rfl) fun v=>?_
 refine cT.trans (freeze 12 (some o.cs.length) [3] (x:=.sl true 1 (dl iD x.h)) (ob':=.val (.sl true 4 (dl Cs.s (o.cs ++ [x])))) rfl (aEw o.cs x) (aEb o.cs x)) ?_
 refine cT.trans (fV 6 13 12 none [1] (ow:=true) (es:=4) (xs:=dl Cs.s (o.cs ++ [x])) (ob':=.box (Off.w { o with cs:=o.cs ++ [x] })) rfl rfl rfl rfl (by decide) rfl) ?_
 exact aN _ rfl ⟨⟨rfl,rfl⟩,⟨rfl,rfl⟩,⟨rfl,rfl⟩,trivial⟩ h0
theorem aC8 {o:Off} {x:Cs} (h:bN o=true) (h1:0<=x.i/\x.i<=1000) (h2:x.h.length<=10/\∀ n∈x.h,0<=n/\n<=1000):tG { o with cs:=o.cs ++ [x] }:=by
 have hd:=tT h
 have hp:=bT h
 refine ⟨by simp only [List.length_append,List.length_singleton]; omega,fun y hy=>?_,hd.2.2.1,hd.2.2.2⟩
 rcases List.mem_append.1 hy with hy|hy
 ·exact hd.2.1 y hy
 ·rw [List.mem_singleton.1 hy]
  exact ⟨h1.1,h1.2,h2⟩
theorem pT (l:List Nat) (s:St):eL s (fun _:Unit=>⟨jY l s.e,s.o⟩):=cT.x fun c C a w h=>⟨C,h.weak (kS l s.e)⟩
theorem aLp {P:PG} {un:List Nat} {x y:MP} {R:List Nat} {s:St} {K:St->Prop} (hx:cN P un x R s K) (hy:cN P un y R s K):cN P un (.br x y) R s K:=aAi (P:=P) ▸ ⟨hx,hy⟩
theorem aN2 {P:PG} {un:List Nat} {i:Nat} {m:MOp} {k:MP} {R:List Nat} {s:St} {K:St->Prop} (h:∀ k',k'=k->cF P [m] s fun s'=>cN P un k' (tK (oC s m) R) s' K):cN P un (.q i m k) R s K:=by rw [aCD]; exact h k rfl
theorem aKB {P:PG} {un:List Nat} {i:Nat} {m:MOp} {k:MP} {s:St} {K:St->Prop} (h:∀ k',k'=k->cF P [m] s fun s'=>cN P un k' [] s' K):cN P un (.e i m k) [] s K:=by rw [aA2]; exact h k rfl
theorem aK0 {P:PG} {un:List Nat} {i r:Nat} {m:MOp} {k:MP} {R:List Nat} {s:St} {K:St->Prop} (h:∀ k',k'=k->s9 P (un.contains i) un m k' (r :: R) s K):cN P un (.e i m k) (r :: R) s K:=by rw [aAT]; exact h k rfl
theorem aNe {G:Prop} {P:PG} {un R:List Nat} {m:MP} {K:St->Prop} {α:Type} (S:α->St) (C:α->Prop) (a:Held (∀ k,k=m->∀ x,C x->cN P un k R (S x) K)->G) (b:∀ x,C x->cN P un m R (S x) K):G:=a ⟨fun _ h=>h ▸ b⟩
theorem xF (code:List UInt8) (k:Nat) (seed:Int) (hc:code.length<=1048576) (hk:k<=999999000000):sO prog 35 true (tH code k seed) []
  (fun x' rs=>∃ (o:Off) (k':Nat) (seed':Int),x'=tH code k' seed'/\rs=[o.s]/\k<=k'/\k'<=k + 3000/\tG o):=by
 refine kF (ps:=[[1,1,1,0,1,0,1,1,1,1,1,0,0,0,0,0],[1,1,1,0,1,0,1,1,1,0],[1,1,1,1,0],[1,1,1,1,1],[0]]) (fn:=f35) (by exact func35) c35 r35 (n:=80) (by rfl) (rv:=[.cell 2 27]) (by rfl) (by decide) (by simp) ?_
 unfold m35
 try simp only [wQ]
 simp only [cI,dD]
 simp only [tH]
 refine cB _ (tU false 0 none [0] (es:=1) (xs:=bH code) rfl rfl) fun cv=>?_
 simp only [bR,↓wA,↓wC,wB,aF,aE,reduceEqDiff,reduceAdd,reduceSub,reduceIte,reduceCtorEq,Nat.reduceBEq,reduceLT,aP]
 repeat' (first|(simp only [aD,↓wA,↓wC,wB,aF,aE,reduceEqDiff,reduceAdd,reduceSub,reduceIte,reduceCtorEq,Nat.reduceBEq,reduceLT,aP])|((first|apply aB|apply aC|apply aA)<;>intro h<;>try simp only [h]))
 refine aZ (b8 code cv _ _ [0,0,100,19980] hc (by omega) (by simp) (by simp)) rfl rfl rfl (bB code cv rfl rfl) ?_
 rintro _ _ ⟨m,k1,s1,rfl,rfl,hk1,hk1',hmm⟩
 refine ⟨⟨rfl,rfl⟩,?_⟩
 have hm2:=iJ (a:=0) (b:=20000) hmm (by decide)
 have hwV:∀ q:Off,q.w.isV=true:=fun _=>rfl
 have hwS:∀ q:Off,q.w.size=5:=fun _=>rfl
 have hwB:∀ q:Off,q.w.isStB=true:=fun _=>rfl
 have hst:∀ t:Stp,t.d.noOwn=true:=fun _=>rfl
 repeat' (first|(simp only [aD,Off.w_noOwn,hwV,hwS,↓wA,↓wC,wB,aF,aE,reduceEqDiff,reduceAdd,reduceSub,reduceIte,reduceCtorEq,Nat.reduceBEq,reduceLT,aP])|(refine aG (aAH m hm2.1 hm2.2) rfl rfl ?_)|((first|apply aB|apply aC|apply aA)<;>intro h<;>try simp only [h]))
 refine aZ (e9 code cv k1 s1 30 hc (by omega)) rfl rfl rfl (bB code cv rfl rfl) ?_
 rintro _ _ ⟨n,k2,s2,rfl,rfl,hk2,hk2',hn,hn'⟩
 refine ⟨⟨rfl,rfl⟩,?_⟩
 repeat' (first|(simp only [aD,↓wA,↓wC,wB,aF,aE,reduceEqDiff,reduceAdd,reduceSub,reduceIte,reduceCtorEq,Nat.reduceBEq,reduceLT,aP])|((first|apply aB|apply aC|apply aA)<;>intro h<;>try simp only [h]))
 refine cZ (fun x:Off×Int×Nat×Int=>⟨[(0,.ptr 0 0 []),(2,.ptr 3 0 []),(3,.ptr 6 0 []),(5,.d (.int .i64 x.2.1))],[.box (gC cv x.2.2.1 x.2.2.2),.val (.sl false 1 (bH code)),.tag 1 cv,.box zO,.val (.sl true 1 (dl iD [0,0,100,19980])),.dead,.box x.1.w]⟩)
  (fun x=>bN x.1=true/\(0<=x.2.1/\x.2.1 < 30)/\k<=x.2.2.1/\(x.2.2.1:Int) + 40 * x.2.1<=k + 1300) (fun x=>x.2.1.toNat) (aEQ m,n,k2,s2) (aN _ rfl ⟨⟨rfl,rfl⟩,⟨rfl,rfl⟩,⟨rfl,rfl⟩,⟨rfl,rfl⟩,trivial⟩) ⟨aHR m hm2.1 hm2.2,by simp only; omega,by simp only; omega,by simp only; omega⟩ ?_
 rintro ⟨o,n,k3,s3⟩ ⟨i1,i2,i3,i4⟩
 simp only at i1 i2 i3 i4 ⊢
 cases h1:decide (0 < n) with
 | false =>
  have hn0:=of_decide_eq_false h1
  have hd:=tT i1
  repeat' (first|(simp only [h1,aD,↓wA,↓wC,wB,aF,aE,reduceEqDiff,reduceAdd,reduceSub,reduceIte,reduceCtorEq,Nat.reduceBEq,reduceLT,aP])|((first|apply aB|apply aC|apply aA)<;>intro h<;>try simp only [h]))
  refine aZ (e9 code cv k3 s3 32 hc (by omega)) rfl rfl rfl (bB code cv rfl rfl) ?_
  rintro _ _ ⟨p,k4,s4,rfl,rfl,hk4,hk4',hp,hp'⟩
  refine ⟨⟨rfl,rfl⟩,?_⟩
  apply aJQ (fun x:Off×Nat×Int=>(⟨[(0,.ptr 0 0 []),(2,.ptr 3 0 []),(3,.ptr 6 0 [])],[.box (gC cv x.2.1 x.2.2),.val (.sl false 1 (bH code)),.tag 1 cv,.box zO,.val (.sl true 1 (dl iD [0,0,100,19980])),.dead,.box x.1.w]⟩:St)) (fun x=>tG x.1/\k<=x.2.1/\x.2.1<=k + 3000)
  case a =>
   intro rest
   cases q0:decide (p=0) with
   | true =>
    repeat' (first|(simp only [q0,aD,↓wA,↓wC,wB,aF,aE,reduceEqDiff,reduceAdd,reduceSub,reduceIte,reduceCtorEq,Nat.reduceBEq,reduceLT,aP])|((first|apply aB|apply aC|apply aA)<;>intro h<;>try simp only [h]))
    refine aZ (b8 code cv _ _ [-1,0,20001] hc (by omega) (by simp) (by simp)) rfl rfl rfl (bB code cv rfl rfl) ?_
    rintro _ _ ⟨m0,k5,s5,rfl,rfl,hk5,hk5',hmm0⟩
    refine ⟨⟨rfl,rfl⟩,?_⟩
    repeat' (first|(simp only [aIb,aG7,aHZ,D.size,aD,↓wA,↓wC,wB,aF,aE,reduceEqDiff,reduceAdd,reduceSub,reduceIte,reduceCtorEq,Nat.reduceBEq,reduceLT,aP])|((first|apply aB|apply aC|apply aA)<;>intro h<;>try simp only [h]))
    refine aR (aN (s':=⟨[(0,.ptr 0 0 []),(2,.ptr 3 0 []),(3,.ptr 6 0 [])],[.box (gC cv k5 s5),.val (.sl false 1 (bH code)),.tag 1 cv,.box zO,.val (.sl true 1 (dl iD [0,0,100,19980])),.dead,.box (Off.w { o with day:=m0 })]⟩) _ rfl ⟨⟨rfl,rfl⟩,⟨rfl,rfl⟩,⟨rfl,rfl⟩,trivial⟩) ?_
    exact rest.out (({ o with day:=m0 }:Off),k5,s5) ⟨hd,by simp only; omega,by simp only; omega⟩
   | false =>
    cases q1:decide (p=1) with
    | true =>
     repeat' (first|(simp only [q0,q1,aD,↓wA,↓wC,wB,aF,aE,reduceEqDiff,reduceAdd,reduceSub,reduceIte,reduceCtorEq,Nat.reduceBEq,reduceLT,aP])|((first|apply aB|apply aC|apply aA)<;>intro h<;>try simp only [h]))
     refine cB _ (cU 6 none [1] (es:=4) (xs:=dl Cs.s o.cs) rfl rfl) fun v=>?_
     simp only [bR,aH5,List.length_cons,List.length_nil,Nat.reduceAdd,List.set_cons_succ,List.set_cons_zero,List.cons_append,List.nil_append,jW,iH,cW,List.any_cons,List.any_nil]
     refine aKQ (fun s=>∃ (o':Off) (k':Nat) (s':Int),tG o'/\k<=k'/\k'<=k + 3000/\cT s ⟨[(0,.ptr 0 0 []),(2,.ptr 3 0 []),(3,.ptr 6 0 [])],[.box (gC cv k' s'),.val (.sl false 1 (bH code)),.tag 1 cv,.box zO,.val (.sl true 1 (dl iD [0,0,100,19980])),.dead,.box o'.w]⟩) ?_ ?_
     ·apply aNe (fun x:(Int×Int×Int×Int)×Nat×Int=>(⟨[(41,.ptr 6 1 [1]),(3,.ptr 6 0 []),(53,.d (.int .i64 x.1.2.2.2)),(0,.ptr 0 0 []),(2,.ptr 3 0 []),(42,.own 7),(45,.d (.int .i64 x.1.1)),(47,.d (.int .i64 x.1.2.1)),(50,.d (.int .i64 x.1.2.2.1)),(51,.ptr 0 0 []),(52,.d (.sl false 1 (dl iD [0,1,10])))],[.box (gC cv x.2.1 x.2.2),.val (.sl false 1 (bH code)),.tag 1 cv,.box zO,.val (.sl true 1 (dl iD [0,0,100,19980])),.dead,.box (bD o (.lnk 8 v) (.sl true 1 (dl D.str o.led))),.val (.sl true 4 (dl Cs.s o.cs)),.tag 7 v]⟩:St)) (fun x=>(0<=x.1.1/\x.1.1<=1000)/\(0<=x.1.2.2.2/\x.1.2.2.2<=1000)/\k<=x.2.1/\x.2.1<=k + 2900)
      case a =>
       intro rest
       repeat' (first
        |(with_reducible refine aLp ?_ ?_)
        |(with_reducible refine aN2 fun k hk=>?_)
        |(with_reducible refine aKB fun k hk=>?_)
        |(with_reducible refine aK0 fun k hk=>?_)
        |(simp only [aAR,zN,zK,D.size,aM,aD,↓wA,↓wC,wB,aF,aE,reduceEqDiff,reduceAdd,reduceSub,reduceIte,reduceCtorEq,Nat.reduceBEq,reduceLT,aP])
        |(with_reducible refine And.intro ?_ ?_)
        |((with_reducible show gH prog _ _ [.t 43,.t 44] _ _); refine j7 _ (pT [0,2,3,41,42,43,44,45,46,47,48,49,50,51,52,53] _) (fun _=>?_); simp only [↓wA,↓wC,wB,aF,aE,reduceEqDiff,reduceAdd,reduceSub,reduceIte,reduceCtorEq,Nat.reduceBEq,reduceLT,aP]; refine aZ (b8 code cv _ _ [0,1,999] hc (by omega) (by simp) (by simp)) rfl rfl rfl (bB code cv rfl rfl) ?_; rintro _ _ ⟨a1,u1,z1,rfl,rfl,hu1,hu1',ha1⟩; refine ⟨⟨rfl,rfl⟩,?_⟩)
        |((with_reducible show gH prog _ _ [.t 46,.k (.d (.int .i64 5))] _ _); refine j7 _ (pT [0,2,3,41,42,43,44,45,46,47,48,49,50,51,52,53] _) (fun _=>?_); simp only [↓wA,↓wC,wB,aF,aE,reduceEqDiff,reduceAdd,reduceSub,reduceIte,reduceCtorEq,Nat.reduceBEq,reduceLT,aP]; refine aZ (e9 code cv _ _ 5 hc (by omega)) rfl rfl rfl (bB code cv rfl rfl) ?_; rintro _ _ ⟨a2,u2,z2,rfl,rfl,hu2,hu2',ha2,ha2'⟩; refine ⟨⟨rfl,rfl⟩,?_⟩)
        |((with_reducible show gH prog _ _ [.t 48,.t 49] _ _); refine j7 _ (pT [0,2,3,41,42,43,44,45,46,47,48,49,50,51,52,53] _) (fun _=>?_); simp only [↓wA,↓wC,wB,aF,aE,reduceEqDiff,reduceAdd,reduceSub,reduceIte,reduceCtorEq,Nat.reduceBEq,reduceLT,aP]; refine aZ (b8 code cv _ _ [0,20001] hc (by omega) (by simp) (by simp)) rfl rfl rfl (bB code cv rfl rfl) ?_; rintro _ _ ⟨a3,u3,z3,rfl,rfl,hu3,hu3',ha3⟩; refine ⟨⟨rfl,rfl⟩,?_⟩)
        |((with_reducible show gH prog _ _ [.t 51,.t 52] _ _); (first|(refine cJ 9 ?_; simp only [i6,iV,gZ,D.unown,↓wA,↓wC,wB,aF,aE,reduceEqDiff,reduceAdd,reduceSub,reduceIte,reduceCtorEq,Nat.reduceBEq,reduceLT,aP]; refine j7 _ (aN (s':=⟨[(0,.ptr 0 0 []),(2,.ptr 3 0 []),(42,.own 7),(45,.d (.int .i64 a1)),(47,.d (.int .i64 a2)),(50,.d (.int .i64 a3)),(51,.ptr 0 0 []),(52,.d (.sl false 1 (dl iD [0,1,10])))],[.box (gC cv u3 z3),.val (.sl false 1 (bH code)),.tag 1 cv,.box zO,.val (.sl true 1 (dl iD [0,0,100,19980])),.dead,.dead,.val (.sl true 4 (dl Cs.s o.cs)),.tag 7 v]⟩) _ rfl ⟨⟨rfl,rfl⟩,⟨rfl,rfl⟩,⟨rfl,rfl⟩,⟨rfl,rfl⟩,⟨rfl,rfl⟩,⟨rfl,rfl⟩,⟨rfl,rfl⟩,⟨rfl,rfl⟩,trivial⟩).x (fun _=>?_))|(refine cJ 10 ?_; simp only [i6,iV,gZ,D.unown,↓wA,↓wC,wB,aF,aE,reduceEqDiff,reduceAdd,reduceSub,reduceIte,reduceCtorEq,Nat.reduceBEq,reduceLT,aP]; refine j7 _ (aN (s':=⟨[(0,.ptr 0 0 []),(2,.ptr 3 0 []),(42,.own 7),(45,.d (.int .i64 a1)),(47,.d (.int .i64 a2)),(50,.d (.int .i64 a3)),(51,.ptr 0 0 []),(52,.d (.sl false 1 (dl iD [0,1,10])))],[.box (gC cv u3 z3),.val (.sl false 1 (bH code)),.tag 1 cv,.box zO,.val (.sl true 1 (dl iD [0,0,100,19980])),.dead,.dead,.val (.sl true 4 (dl Cs.s o.cs)),.tag 7 v]⟩) _ rfl ⟨⟨rfl,rfl⟩,⟨rfl,rfl⟩,⟨rfl,rfl⟩,⟨rfl,rfl⟩,⟨rfl,rfl⟩,⟨rfl,rfl⟩,⟨rfl,rfl⟩,⟨rfl,rfl⟩,trivial⟩).x (fun _=>?_))|(refine cJ 11 ?_; simp only [i6,iV,gZ,D.unown,↓wA,↓wC,wB,aF,aE,reduceEqDiff,reduceAdd,reduceSub,reduceIte,reduceCtorEq,Nat.reduceBEq,reduceLT,aP]; refine j7 _ (aN (s':=⟨[(0,.ptr 0 0 []),(2,.ptr 3 0 []),(42,.own 7),(45,.d (.int .i64 a1)),(47,.d (.int .i64 a2)),(50,.d (.int .i64 a3)),(51,.ptr 0 0 []),(52,.d (.sl false 1 (dl iD [0,1,10])))],[.box (gC cv u3 z3),.val (.sl false 1 (bH code)),.tag 1 cv,.box zO,.val (.sl true 1 (dl iD [0,0,100,19980])),.dead,.dead,.val (.sl true 4 (dl Cs.s o.cs)),.tag 7 v]⟩) _ rfl ⟨⟨rfl,rfl⟩,⟨rfl,rfl⟩,⟨rfl,rfl⟩,⟨rfl,rfl⟩,⟨rfl,rfl⟩,⟨rfl,rfl⟩,⟨rfl,rfl⟩,⟨rfl,rfl⟩,trivial⟩).x (fun _=>?_))); simp only [↓wA,↓wC,wB,aF,aE,reduceEqDiff,reduceAdd,reduceSub,reduceIte,reduceCtorEq,Nat.reduceBEq,reduceLT,aP]; refine aZ (b8 code cv _ _ [0,1,10] hc (by omega) (by simp) (by simp)) rfl rfl rfl (bB code cv rfl rfl) ?_; rintro _ _ ⟨a4,u4,z4,rfl,rfl,hu4,hu4',ha4⟩; refine ⟨⟨rfl,rfl⟩,?_⟩)
        |(exact rest.out _ ‹_› ((a1,a2,a3,a4),u4,z4) ⟨iJ (a:=0) (b:=1000) ha1 (by decide),iJ (a:=0) (b:=1000) ha4 (by decide),by simp only; omega,by simp only; omega⟩)
        |(with_reducible show cN _ _ _ _ _ _; subst hk))
      case b =>
       rintro ⟨⟨a1,a2,a3,a4⟩,u4,z4⟩ ⟨b1,b4,hu4,hu4'⟩
       simp only at b1 b4 hu4 hu4' ⊢
       have hcl:(o.cs.length:Int)<=10:=by have:=hd.1; omega
       repeat' (first|(simp only [aAR,zN,zK,D.size,aM,aJ,aD,↓wA,↓wC,wB,aF,aE,reduceEqDiff,reduceAdd,reduceSub,reduceIte,reduceCtorEq,Nat.reduceBEq,reduceLT,aP])|(with_reducible refine And.intro ?_ ?_)|(with_reducible refine aQ ?_ ?_; focus (intro h; cases h))|(with_reducible refine aQ ?_ ?_; focus omega)|((first|apply aB|apply aC|apply aA)<;>intro h<;>try simp only [h]))
       have h2:tG { o with cs:=o.cs ++ [⟨a1,a2,a3,[a4]⟩] }:=aC8 i1 b1 ⟨by simp,fun n hn=>by rw [List.mem_singleton.1 hn]; exact b4⟩
       refine aQ (fun h=>by cases h) (aQ ⟨by omega,by omega⟩ ⟨_,u4,z4,h2,by omega,by omega,?_⟩)
       exact aDS (x:=⟨a1,a2,a3,[a4]⟩) (e:=[]) rfl rfl
     ·rintro s ⟨o',k',s',hd',hk',hk'',hw⟩
      refine ⟨_,hw,?_⟩
      refine aR (aN (s':=⟨[(0,.ptr 0 0 []),(2,.ptr 3 0 []),(3,.ptr 6 0 [])],[.box (gC cv k' s'),.val (.sl false 1 (bH code)),.tag 1 cv,.box zO,.val (.sl true 1 (dl iD [0,0,100,19980])),.dead,.box o'.w]⟩) _ rfl ⟨⟨rfl,rfl⟩,⟨rfl,rfl⟩,⟨rfl,rfl⟩,trivial⟩) ?_
      exact rest.out (o',k',s') ⟨hd',hk',hk''⟩
    | false =>
     cases q2:decide (p=2) with
     | true =>
      repeat' (first|(simp only [q0,q1,q2,aD,↓wA,↓wC,wB,aF,aE,reduceEqDiff,reduceAdd,reduceSub,reduceIte,reduceCtorEq,Nat.reduceBEq,reduceLT,aP])|((first|apply aB|apply aC|apply aA)<;>intro h<;>try simp only [h]))
      obtain ⟨_,_,_,_,_,_,_,hl8,hs8,_⟩:=bT i1
      refine cZ (fun x:List (List UInt8)×Nat×Int=>⟨[(0,.ptr 0 0 []),(2,.ptr 3 0 []),(3,.ptr 6 0 [])],[.box (gC cv x.2.1 x.2.2),.val (.sl false 1 (bH code)),.tag 1 cv,.box zO,.val (.sl true 1 (dl iD [0,0,100,19980])),.dead,.box (Off.w { o with led:=x.1 })]⟩)
       (fun x=>x.1.length<=12/\(∀ s∈x.1,s.length<=1000)/\k4<=x.2.1/\(x.2.1:Int) + 2 * (20 - x.1.length)<=k4 + 100) (fun x=>100 - x.1.length) (o.led,k4,s4) (aN _ rfl ⟨⟨rfl,rfl⟩,⟨rfl,rfl⟩,⟨rfl,rfl⟩,trivial⟩) ⟨by simp only; omega,fun s hs=>by have:=hs8 s hs; omega,by simp only; omega,by simp only; omega⟩ ?_
      rintro ⟨L,k5,s5⟩ ⟨j1,j2,j3,j4⟩
      simp only at j1 j2 j3 j4 ⊢
      refine cB _ (cU 6 none [4] (es:=1) (xs:=dl D.str L) rfl rfl) fun v=>?_
      simp only [bR,aH1,↓wA,↓wC,wB,aF,aE,reduceEqDiff,reduceAdd,reduceSub,reduceIte,reduceCtorEq,Nat.reduceBEq,reduceLT,aP]
      repeat' (first|(simp only [aFX,aFS,aFi,aJ,D.size,aL,aD,↓wA,↓wC,wB,aF,aE,reduceEqDiff,reduceAdd,reduceSub,reduceIte,reduceCtorEq,Nat.reduceBEq,reduceLT,aP])|(with_reducible refine And.intro ?_ ?_)|(refine aZ (e9 code cv _ _ 2 hc (by omega)) rfl rfl rfl (bB code cv rfl rfl) ?_; rintro _ _ ⟨a2,u2,z2,rfl,rfl,hu2,hu2',ha2,ha2'⟩; refine ⟨⟨rfl,rfl⟩,?_⟩)|(refine bO ?_)|(with_reducible refine aQ ?_ ?_; focus (intro h; cases h))|(with_reducible refine aQ ?_ ?_; focus (simp only [List.length_cons,List.length_nil]; omega))|(with_reducible refine aI ?_ ?_; focus (simp only [bQ]; omega))|((first|apply aB|apply aC|apply aA)<;>intro h<;>try simp only [h]))
      ·have hl8':=of_decide_eq_true h
       have happ:(dl D.str L).app (D.cons (D.str [114,49,32,100,53]) .nil)=dl D.str (L ++ [[114,49,32,100,53]]):=eZ (f:=D.str) L _
       rw [happ]
       refine aQ (fun h=>by cases h) (aQ ⟨by omega,by omega⟩ ⟨(L ++ [[114,49,32,100,53]],u2,z2),(aN _ rfl ⟨⟨rfl,rfl⟩,⟨rfl,rfl⟩,⟨rfl,rfl⟩,trivial⟩),⟨by simp only [List.length_append,List.length_singleton]; omega,fun s hs=>?_,by simp only; omega,by simp only [List.length_append,List.length_singleton]; omega⟩,by simp only [List.length_append,List.length_singleton]; omega⟩)
       rcases List.mem_append.1 hs with hs|hs
       ·exact j2 s hs
       ·rw [List.mem_singleton.1 hs]; decide
      ·refine aR ((fV 6 8 7 none [4] (ow:=true) (es:=1) (xs:=dl D.str L) (ob':=.box (Off.w { o with led:=L })) rfl rfl rfl rfl (by decide) rfl).trans (aN (s':=⟨[(0,.ptr 0 0 []),(2,.ptr 3 0 []),(3,.ptr 6 0 [])],[.box (gC cv u2 z2),.val (.sl false 1 (bH code)),.tag 1 cv,.box zO,.val (.sl true 1 (dl iD [0,0,100,19980])),.dead,.box (Off.w { o with led:=L })]⟩) _ rfl ⟨⟨rfl,rfl⟩,⟨rfl,rfl⟩,⟨rfl,rfl⟩,trivial⟩)) ?_
       exact rest.out (({ o with led:=L }:Off),u2,z2) ⟨⟨hd.1,hd.2.1,by simp only; omega,j2⟩,by simp only; omega,by simp only; omega⟩
     | false =>
      cases q3:decide (p=3) with
      | true =>
       repeat' (first|(simp only [q0,q1,q2,q3,aD,↓wA,↓wC,wB,aF,aE,reduceEqDiff,reduceAdd,reduceSub,reduceIte,reduceCtorEq,Nat.reduceBEq,reduceLT,aP])|((first|apply aB|apply aC|apply aA)<;>intro h<;>try simp only [h]))
       refine aZ (b8 code cv _ _ [-1,999,1000] hc (by omega) (by simp) (by simp)) rfl rfl rfl (bB code cv rfl rfl) ?_
       rintro _ _ ⟨m0,k5,s5,rfl,rfl,hk5,hk5',hmm0⟩
       refine ⟨⟨rfl,rfl⟩,?_⟩
       repeat' (first|(simp only [aIx,aIq,aGZ,D.size,aD,↓wA,↓wC,wB,aF,aE,reduceEqDiff,reduceAdd,reduceSub,reduceIte,reduceCtorEq,Nat.reduceBEq,reduceLT,aP])|((first|apply aB|apply aC|apply aA)<;>intro h<;>try simp only [h]))
       refine aR (aN (s':=⟨[(0,.ptr 0 0 []),(2,.ptr 3 0 []),(3,.ptr 6 0 [])],[.box (gC cv k5 s5),.val (.sl false 1 (bH code)),.tag 1 cv,.box zO,.val (.sl true 1 (dl iD [0,0,100,19980])),.dead,.box (Off.w { o with kept:=m0 })]⟩) _ rfl ⟨⟨rfl,rfl⟩,⟨rfl,rfl⟩,⟨rfl,rfl⟩,trivial⟩) ?_
       exact rest.out (({ o with kept:=m0 }:Off),k5,s5) ⟨hd,by simp only; omega,by simp only; omega⟩
      | false =>
       repeat' (first|(simp only [q0,q1,q2,q3,aD,↓wA,↓wC,wB,aF,aE,reduceEqDiff,reduceAdd,reduceSub,reduceIte,reduceCtorEq,Nat.reduceBEq,reduceLT,aP])|((first|apply aB|apply aC|apply aA)<;>intro h<;>try simp only [h]))
       refine aR (aN (s':=⟨[(0,.ptr 0 0 []),(2,.ptr 3 0 []),(3,.ptr 6 0 [])],[.box (gC cv k4 s4),.val (.sl false 1 (bH code)),.tag 1 cv,.box zO,.val (.sl true 1 (dl iD [0,0,100,19980])),.dead,.box o.w]⟩) _ rfl ⟨⟨rfl,rfl⟩,⟨rfl,rfl⟩,⟨rfl,rfl⟩,trivial⟩) ?_
       exact rest.out (o,k4,s4) ⟨hd,by simp only; omega,by simp only; omega⟩
  case b =>
   rintro ⟨o',k',s'⟩ ⟨hd',hk',hk''⟩
   simp only at hd' hk' hk'' ⊢
   repeat' (first|(simp only [aD,hst,hwB,hwS,hwV,Off.w_noOwn,↓wA,↓wC,wB,aF,aE,reduceEqDiff,reduceAdd,reduceSub,reduceIte,reduceCtorEq,Nat.reduceBEq,reduceLT,aP])|((first|apply aB|apply aC|apply aA)<;>intro h<;>try simp only [h]))
   refine nM _ rfl (aQ rfl (aQ rfl ?_))
   refine aR ((fV 0 2 1 none [0] (ob':=.box (.st (.cons (.sl false 1 (bH code)) (.cons (.int .i64 k') (.cons (.int .u64 s') .nil))))) rfl rfl rfl rfl (by decide) rfl).trans (freeze 3 none [] (x:=o'.w) (ob':=.box o'.s) rfl rfl (by simp only [bR,Off.w_unown]; rfl))) ?_
   simp only [↓wA,↓wC,wB,aF,aE,reduceEqDiff,reduceAdd,reduceSub,reduceIte,reduceCtorEq,Nat.reduceBEq,reduceLT,aP]
   exact aQ rfl (nM _ rfl ⟨o',k',s',rfl,rfl,by omega,by omega,hd'⟩)
 | true =>
  have h1':=of_decide_eq_true h1
  repeat' (first|(simp only [h1,aD,hst,hwB,hwS,hwV,Off.w_noOwn,↓wA,↓wC,wB,aF,aE,reduceEqDiff,reduceAdd,reduceSub,reduceIte,reduceCtorEq,Nat.reduceBEq,reduceLT,aP])|(refine bO ?_)|(with_reducible refine And.intro ?_ ?_)|(refine aZ (kU code cv k3 s3 o hc (by omega) (tT i1)) rfl (aJg rfl) rfl (bB code cv rfl rfl) ?_; rintro _ _ ⟨t,k4,s4,rfl,rfl,hk4,hk4',ht⟩; refine ⟨⟨rfl,rfl⟩,?_⟩)|((first|apply aB|apply aC|apply aA)<;>intro h<;>try simp only [h]))
  all_goals
   cases hb:fP o t.k t.i t.a t.v with
   | false =>
    have hF:=aFJ (dK i1) hb
    repeat' (first|(simp only [aD,hst,hwB,hwS,hwV,Off.w_noOwn,↓wA,↓wC,wB,aF,aE,reduceEqDiff,reduceAdd,reduceSub,reduceIte,reduceCtorEq,Nat.reduceBEq,reduceLT,aP])|(refine aG hF (aJB rfl) rfl ?_)|((first|apply aB|apply aC|apply aA)<;>intro h<;>try simp only [h]))
    refine aI (by simp only [bQ]; omega) ?_
    exact ⟨(o,n - 1,k4,s4),(aN _ rfl ⟨⟨rfl,rfl⟩,⟨rfl,rfl⟩,⟨rfl,rfl⟩,⟨rfl,rfl⟩,trivial⟩),⟨i1,by simp only; omega,by simp only; omega,by simp only; omega⟩,by simp only; omega⟩
   | true =>
    obtain ⟨q,hq,hF⟩:=aEl (dK i1) hb
    repeat' (first|(simp only [aD,hst,hwB,hwS,hwV,Off.w_noOwn,vwE,vwS,↓wA,↓wC,wB,aF,aE,reduceEqDiff,reduceAdd,reduceSub,reduceIte,reduceCtorEq,Nat.reduceBEq,reduceLT,aP])|(with_reducible refine aG hF rfl rfl ?_)|(refine j7 _ (aGQ o 3 rfl rfl).x (fun _=>?_))|((first|apply aB|apply aC|apply aA)<;>intro h<;>try simp only [h]))
    refine nM _ rfl (aQ rfl (aQ rfl (aI (by simp only [bQ]; omega) ?_)))
    exact ⟨(q,n - 1,k4,s4),(aN _ rfl ⟨⟨rfl,rfl⟩,⟨rfl,rfl⟩,⟨rfl,rfl⟩,⟨rfl,rfl⟩,trivial⟩),⟨hq,by simp only; omega,by simp only; omega,by simp only; omega⟩,by simp only; omega⟩
end Go.Pe.Tryz
set_option maxRecDepth 100000
set_option maxHeartbeats 2000000
set_option linter.all false
namespace Go.Pe.Tryz
open Nat (reduceEqDiff reduceAdd reduceSub reduceLT)
open Go.Proofs.Tryz
theorem aAF {s:St} {r:Nat} {x y:D} (h1:s.o[r]?=some (.box x)) (hxy:∀ w M cs fp,x.rep w M cs fp->y.rep w M cs fp):cT s ⟨s.e,s.o.set r (.box y)⟩:=by
 intro c C a w h
 have hr:=aK h1
 refine ⟨C,h.tmps,h.defers,h.env,⟨by rw [List.length_set]; exact h.wd.len,?_,?_,h.wd.nodup,h.wd.lt,h.wd.apart,h.wd.mine,h.wd.os,h.wd.tape,h.wd.output,h.wd.size,h.wd.kept,h.wd.m0,h.wd.glob⟩,h.fix⟩
 ·intro j ob oc hj hc
  rw [List.getElem?_set] at hj
  by_cases e:r=j
  ·subst e
   simp [hr] at hj
   subst hj
   obtain ⟨cs,fps,p1,p2,p3⟩:=h.wd.obs r (.box x) oc h1 hc
   exact ⟨cs,fps,p1,hxy _ _ _ _ p2,p3⟩
  ·rw [if_neg e] at hj
   exact h.wd.obs j ob oc hj hc
 ·intro q j v hq
  rw [List.getElem?_set] at hq
  by_cases e:r=q
  ·subst e
   simp [hr] at hq
  ·rw [if_neg e] at hq
   exact h.wd.tags q j v hq
theorem aLz {α:Type} {s:St} {S T:α->St} (h:eL s S) (k:∀ x,cT (S x) (T x)):eL s T:=fun c C a w r=>by
 obtain ⟨x,C',r'⟩:=h c C a w r
 obtain ⟨C'',r''⟩:=k x c C' a w r'
 exact ⟨x,C'',r''⟩
def aJy (q:Nat) (cv:Value) (k:Nat) (seed:Int):D:=.st (.cons (.lnk q cv) (.cons (.int .i64 k) (.cons (.int .u64 seed) .nil)))
theorem zX {q:Nat} {cv:Value} {k:Nat} {seed:Int} (w:World) (M:Nat->Prop) (cs:List Value) (fp:List Nat) (h:(aJy q cv k seed).rep w M cs fp):(gC cv k seed).rep w M cs fp:=h
theorem zU (q r:Nat) (code:List UInt8) (cv:Value) {o:List Ob} (h1:o[q]?=some (.tag r cv)) (h2:o[r]?=some (.val (.sl false 1 (bH code)))):j9 o (cL code cv) :=
 ⟨⟨q,r,false,bH code,h1,h2,(oE code).symm⟩,trivial⟩
theorem aAm (code:List UInt8) (hc:code.length<=1048576):Fn prog 6 [.sl false 1 (bH code)] (fun rs=>∃ (o:Off) (s:Stp),rs=[o.s,s.d]/\tG o/\vE s):=by
 have hst:∀ t:Stp,t.d.noOwn=true:=fun _=>rfl
 refine dL (ps:=[[1,1,1,0]]) (fn:=f6) (by exact func6) c6 r6 (n:=15) (by rfl) (rv:=[.cell 2 27,.cell 3 29]) (by rfl) (by simp) ?_
 unfold m6
 try simp only [wQ]
 simp only [cI,dD]
 repeat' (first|(simp only [aD,eS,↓wA,↓wC,wB,aF,aE,reduceEqDiff,reduceAdd,reduceSub,reduceIte,reduceCtorEq,Nat.reduceBEq,reduceLT,aP,dJ])|((first|apply aB|apply aC|apply aA)<;>intro h<;>try simp only [h]))
 refine cR (xF code 0 0 hc (by omega)) rfl rfl rfl ?_
 rintro _ _ ⟨o,k1,s1,rfl,rfl,hk1,hk1',hd⟩
 repeat' (first|(simp only [Off.s_noOwn,Off.s_isV,Off.s_size,aD,↓wA,↓wC,wB,aF,aE,reduceEqDiff,reduceAdd,reduceSub,reduceIte,reduceCtorEq,Nat.reduceBEq,reduceLT,aP,dJ])|((first|apply aB|apply aC|apply aA)<;>intro h<;>try simp only [h]))
 refine cB (fun cv=>⟨[(2,.ptr 0 0 []),(3,.ptr 1 0 []),(4,.ptr 2 0 []),(5,.ptr 3 0 [])],[.box zO,.box zT,.box (gC cv k1 s1),.box o.s,.val (.sl false 1 (bH code)),.tag 4 cv]⟩) (aLz (tU false 2 none [0] (es:=1) (xs:=bH code) rfl rfl) fun cv=>aAF (r:=2) (x:=aJy 5 cv k1 s1) rfl zX) fun cv=>?_
 repeat' (first|(simp only [Off.s_noOwn,Off.s_isV,Off.s_size,↓bG,hst,Stp.d_isV,Stp.d_size,aD,↓wA,↓wC,wB,aF,aE,reduceEqDiff,reduceAdd,reduceSub,reduceIte,reduceCtorEq,Nat.reduceBEq,reduceLT,aP,dJ])|(refine bO ?_)|(with_reducible refine And.intro ?_ ?_)|(refine aZ (kU code cv k1 s1 o hc (by omega) hd) rfl rfl rfl (zU 5 4 code cv rfl rfl) ?_; rintro _ _ ⟨t,k4,s4,rfl,rfl,hk4,hk4',ht⟩; refine ⟨⟨rfl,rfl⟩,?_⟩)|((first|apply aB|apply aC|apply aA)<;>intro h<;>try simp only [h]))
 all_goals exact aQ rfl (aQ rfl (aQ ⟨rfl,rfl⟩ (nM _ rfl (nM _ rfl ⟨o,t,rfl,hd,ht⟩))))
theorem aHO (code:List UInt8) (k:Nat) (seed:Int) (hc:code.length<=1048576) (hk:k<=999999999900):sO prog 53 true (tH code k seed) []
  (fun x' rs=>∃ (n:Int) (k':Nat) (seed':Int),x'=tH code k' seed'/\rs=[.int .i64 n]/\k<=k'/\k'<=k + 8):=by
 refine fK (fn:=f53) (by exact func53) c53 r53 (n:=6) (by rfl) (rv:=[.tmp 2]) (by rfl) (by decide) (by simp) ?_
 unfold m53
 try simp only [wQ]
 repeat' (first|(simp only [aD,↓wA,↓wC,wB,aF,aE,reduceEqDiff,reduceAdd,reduceSub,reduceIte,reduceCtorEq,Nat.reduceBEq,reduceLT,aP,dJ])|((first|apply aB|apply aC|apply aA)<;>intro h<;>try simp only [h]))
 refine cJ 1 ?_
 simp only [i6,iV,gZ,D.unown,↓wA,↓wC,wB,aF,aE,reduceEqDiff,reduceAdd,reduceSub,reduceIte,reduceCtorEq,Nat.reduceBEq,reduceLT,aP,dJ]
 refine cR (aEX code k seed [0,10,100,150,400,1000,3650,19999,20000,20001,-1,365] hc (by omega) (by decide) (by decide)) rfl rfl rfl ?_
 rintro _ _ ⟨m,k1,s1,rfl,rfl,hk1,hk1',hmm⟩
 repeat' (first|(simp only [aD,↓wA,↓wC,wB,aF,aE,reduceEqDiff,reduceAdd,reduceSub,reduceIte,reduceCtorEq,Nat.reduceBEq,reduceLT,aP,dJ])|((first|apply aB|apply aC|apply aA)<;>intro h<;>try simp only [h]))
 exact ⟨m,k1,s1,rfl,rfl,by omega,by omega⟩
theorem wW (code:List UInt8) (hc:code.length<=1048576):Fn prog 18 [.sl false 1 (bH code)] (fun rs=>∃ n:Int,rs=[.int .i64 n]):=by
 refine a8 (fn:=f18) (by exact func18) c18 r18 (n:=9) (by rfl) (rv:=[.tmp 2]) (by rfl) (by simp) ?_
 unfold m18
 try simp only [wQ]
 repeat' (first|(simp only [aD,eS,↓wA,↓wC,wB,aF,aE,reduceEqDiff,reduceAdd,reduceSub,reduceIte,reduceCtorEq,Nat.reduceBEq,reduceLT,aP,dJ])|((first|apply aB|apply aC|apply aA)<;>intro h<;>try simp only [h]))
 refine cR (aHO code 0 0 hc (by omega)) rfl rfl rfl ?_
 rintro _ _ ⟨n,k1,s1,rfl,rfl,hk1,hk1'⟩
 repeat' (first|(simp only [aD,↓wA,↓wC,wB,aF,aE,reduceEqDiff,reduceAdd,reduceSub,reduceIte,reduceCtorEq,Nat.reduceBEq,reduceLT,aP,dJ])|((first|apply aB|apply aC|apply aA)<;>intro h<;>try simp only [h]))
 exact ⟨n,rfl⟩
end Go.Pe.Tryz
set_option maxRecDepth 100000
set_option maxHeartbeats 2000000
set_option linter.all false
namespace Go.Pe.Tryz
open Nat (reduceEqDiff reduceAdd reduceSub reduceLT)
open Go.Proofs.Tryz
theorem aCx (L:List Stp) (x:Stp):(dl Stp.d L).app (D.cons x.d .nil)=dl Stp.d (L ++ [x]):=eZ (f:=Stp.d) L x
theorem aBN {o:Off} {k i a v:Int} (h:fP o k i a v=true):tG (fQ o k i a v):=by
 unfold fP at h
 unfold fQ
 cases hq:d6 o k i a v with
 | none=>rw [hq] at h; cases h
 | some q=>exact tT (n6 hq)
theorem aCl (code:List UInt8) (hc:code.length<=1048576):Fn prog 15 [.sl false 1 (bH code)] (fun rs=>∃ (o:Off) (ss:List Stp),rs=[o.s,.sl false 4 (dl Stp.d ss)]/\tG o/\ss.length<=1000):=by
 have hst:∀ t:Stp,t.d.noOwn=true:=fun _=>rfl
 refine dL (ps:=[[1,1,1,1,1,1,1,0],[1,1,1,1,0]]) (fn:=f15) (by exact func15) c15 r15 (n:=54) (by rfl) (rv:=[.cell 2 27,.tmp 3]) (by rfl) (by simp) ?_
 unfold m15
 try simp only [wQ]
 simp only [cI,dD]
 repeat' (first|(simp only [aD,eS,↓wA,↓wC,wB,aF,aE,reduceEqDiff,reduceAdd,reduceSub,reduceIte,reduceCtorEq,Nat.reduceBEq,reduceLT,aP])|((first|apply aB|apply aC|apply aA)<;>intro h<;>try simp only [h]))
 refine cR (xF code 0 0 hc (by omega)) rfl rfl rfl ?_
 rintro _ _ ⟨o,k1,s1,rfl,rfl,hk1,hk1',hd⟩
 repeat' (first|(simp only [Off.s_noOwn,Off.s_isV,Off.s_size,aD,↓wA,↓wC,wB,aF,aE,reduceEqDiff,reduceAdd,reduceSub,reduceIte,reduceCtorEq,Nat.reduceBEq,reduceLT,aP])|((first|apply aB|apply aC|apply aA)<;>intro h<;>try simp only [h]))
 refine cB (fun cv=>⟨[(2,.ptr 0 0 []),(4,.ptr 1 0 []),(5,.ptr 2 0 []),(6,.own 3)],[.box zO,.box (gC cv k1 s1),.box o.s,.val (.sl true 4 .nil),.val (.sl false 1 (bH code)),.tag 4 cv]⟩) (aLz (tU false 1 none [0] (es:=1) (xs:=bH code) rfl rfl) fun cv=>aAF (r:=1) (x:=aJy 5 cv k1 s1) rfl zX) fun cv=>?_
 repeat' (first|(simp only [Off.s_noOwn,Off.s_isV,Off.s_size,↓bG,aD,↓wA,↓wC,wB,aF,aE,reduceEqDiff,reduceAdd,reduceSub,reduceIte,reduceCtorEq,Nat.reduceBEq,reduceLT,aP])|((first|apply aB|apply aC|apply aA)<;>intro h<;>try simp only [h]))
 refine aZ (e9 code cv k1 s1 12 hc (by omega)) rfl rfl rfl (zU 5 4 code cv rfl rfl) ?_
 rintro _ _ ⟨n,k2,s2,rfl,rfl,hk2,hk2',hn,hn'⟩
 refine ⟨⟨rfl,rfl⟩,?_⟩
 repeat' (first|(simp only [aD,↓wA,↓wC,wB,aF,aE,reduceEqDiff,reduceAdd,reduceSub,reduceIte,reduceCtorEq,Nat.reduceBEq,reduceLT,aP])|((first|apply aB|apply aC|apply aA)<;>intro h<;>try simp only [h]))
 refine cZ (fun x:Off×List Stp×Int×Nat×Int=>⟨[(2,.ptr 0 0 []),(4,.ptr 1 0 []),(5,.ptr 2 0 []),(6,.own 3),(7,.ptr 6 0 []),(8,.d (.int .i64 x.2.2.1))],[.box zO,.box (gC cv x.2.2.2.1 x.2.2.2.2),.box o.s,.val (.sl true 4 (dl Stp.d x.2.1)),.val (.sl false 1 (bH code)),.tag 4 cv,.box x.1.s]⟩)
  (fun x=>tG x.1/\(0<=x.2.2.1/\x.2.2.1<=12)/\(x.2.1.length:Int) + x.2.2.1<=12/\(x.2.2.2.1:Int) + 40 * x.2.2.1<=4000) (fun x=>x.2.2.1.toNat) (o,[],n,k2,s2) (aN _ rfl ⟨⟨rfl,rfl⟩,⟨rfl,rfl⟩,⟨rfl,rfl⟩,⟨rfl,rfl⟩,⟨rfl,rfl⟩,⟨rfl,rfl⟩,trivial⟩) ⟨hd,by simp only; omega,by simp only [List.length_nil]; omega,by simp only; omega⟩ ?_
 rintro ⟨x,L,n,k3,s3⟩ ⟨i1,i2,i3,i4⟩
 simp only at i1 i2 i3 i4 ⊢
 cases h1:decide (0 < n) with
 | false =>
  apply aJQ (fun x:List Stp×Nat×Int=>(⟨[(2,.ptr 0 0 []),(5,.ptr 2 0 []),(6,.d (.sl false 4 (dl Stp.d x.1)))],[.box zO,.box (gC cv x.2.1 x.2.2),.box o.s,.dead]⟩:St)) (fun x=>x.1.length<=1000)
  case a =>
   intro rest
   repeat' (first|(simp only [h1,aD,↓wA,↓wC,wB,aF,aE,reduceEqDiff,reduceAdd,reduceSub,reduceIte,reduceCtorEq,Nat.reduceBEq,reduceLT,aP])|((first|apply aB|apply aC|apply aA)<;>intro h<;>try simp only [h]))
   refine aZ (yO code cv k3 s3 24 hc (by omega)) rfl rfl rfl (zU 5 4 code cv rfl rfl) ?_
   rintro _ _ ⟨b,k4,s4,rfl,rfl,hk4,hk4'⟩
   refine ⟨⟨rfl,rfl⟩,?_⟩
   cases b with
   | false =>
    repeat' (first|(simp only [aD,↓wA,↓wC,wB,aF,aE,reduceEqDiff,reduceAdd,reduceSub,reduceIte,reduceCtorEq,Nat.reduceBEq,reduceLT,aP])|((first|apply aB|apply aC|apply aA)<;>intro h<;>try simp only [h]))
    refine aR ((aJN 3 rfl).trans (aN (s':=⟨[(2,.ptr 0 0 []),(5,.ptr 2 0 []),(6,.d (.sl false 4 (dl Stp.d L)))],[.box zO,.box (gC cv k4 s4),.box o.s,.dead]⟩) _ rfl ⟨⟨rfl,rfl⟩,⟨rfl,rfl⟩,⟨by show SV.d (D.unown (.sl true 4 (dl Stp.d L)))=_; rw [D.unown,oK],rfl⟩,trivial⟩)) ?_
    exact rest.out (L,k4,s4) (by simp only; omega)
   | true =>
    repeat' (first|(simp only [aD,↓wA,↓wC,wB,aF,aE,reduceEqDiff,reduceAdd,reduceSub,reduceIte,reduceCtorEq,Nat.reduceBEq,reduceLT,aP])|((first|apply aB|apply aC|apply aA)<;>intro h<;>try simp only [h]))
    refine cZ (fun y:List Stp×Nat×Int=>⟨[(2,.ptr 0 0 []),(4,.ptr 1 0 []),(5,.ptr 2 0 []),(6,.own 3)],[.box zO,.box (gC cv y.2.1 y.2.2),.box o.s,.val (.sl true 4 (dl Stp.d y.1)),.val (.sl false 1 (bH code)),.tag 4 cv]⟩)
     (fun y=>y.1.length<=42/\(y.2.1:Int) + 2 * (50 - y.1.length)<=5000) (fun y=>100 - y.1.length) (L,k4,s4) (aN _ rfl ⟨⟨rfl,rfl⟩,⟨rfl,rfl⟩,⟨rfl,rfl⟩,⟨rfl,rfl⟩,trivial⟩) ⟨by simp only; omega,by simp only; omega⟩ ?_
    rintro ⟨M,k5,s5⟩ ⟨j1,j2⟩
    simp only at j1 j2 ⊢
    repeat' (first|(simp only [aJ,aD,↓wA,↓wC,wB,aF,aE,reduceEqDiff,reduceAdd,reduceSub,reduceIte,reduceCtorEq,Nat.reduceBEq,reduceLT,aP])|(refine aZ (e9 code cv k5 s5 2 hc (by omega)) rfl rfl rfl (zU 5 4 code cv rfl rfl) ?_; rintro _ _ ⟨a2,u2,z2,rfl,rfl,hu2,hu2',ha2,ha2'⟩; refine ⟨⟨rfl,rfl⟩,?_⟩)|(with_reducible refine aI ?_ ?_; focus (simp only [bQ]; omega))|((first|apply aB|apply aC|apply aA)<;>intro h<;>try simp only [h]))
    ·have hh:=of_decide_eq_true h
     have happ:(dl Stp.d M).app (D.cons (D.st (.cons (.int .i64 1) (.cons (.int .i64 0) (.cons (.int .i64 0) (.cons (.int .i64 1) .nil))))) .nil)=dl Stp.d (M ++ [⟨1,0,0,1⟩]):=aCx M ⟨1,0,0,1⟩
     rw [happ]
     exact aQ (fun h=>by cases h) (aQ ⟨by omega,by omega⟩ ⟨(M ++ [⟨1,0,0,1⟩],u2,z2),(aN _ rfl ⟨⟨rfl,rfl⟩,⟨rfl,rfl⟩,⟨rfl,rfl⟩,⟨rfl,rfl⟩,trivial⟩),⟨by simp only [List.length_append,List.length_singleton]; omega,by simp only [List.length_append,List.length_singleton]; omega⟩,by simp only [List.length_append,List.length_singleton]; omega⟩)
    ·refine aR ((aJN 3 rfl).trans (aN (s':=⟨[(2,.ptr 0 0 []),(5,.ptr 2 0 []),(6,.d (.sl false 4 (dl Stp.d M)))],[.box zO,.box (gC cv u2 z2),.box o.s,.dead]⟩) _ rfl ⟨⟨rfl,rfl⟩,⟨rfl,rfl⟩,⟨by show SV.d (D.unown (.sl true 4 (dl Stp.d M)))=_; rw [D.unown,oK],rfl⟩,trivial⟩)) ?_
     exact rest.out (M,u2,z2) (by simp only; omega)
  case b =>
   rintro ⟨M,k5,s5⟩ hM
   simp only at hM ⊢
   repeat' (first|(simp only [Off.s_noOwn,Off.s_isV,Off.s_size,↓bG,aD,↓wA,↓wC,wB,aF,aE,reduceEqDiff,reduceAdd,reduceSub,reduceIte,reduceCtorEq,Nat.reduceBEq,reduceLT,aP])|((first|apply aB|apply aC|apply aA)<;>intro h<;>try simp only [h]))
   exact aQ rfl (aQ rfl (nM _ rfl ⟨o,M,rfl,hd,hM⟩))
 | true =>
  have h1':=of_decide_eq_true h1
  repeat' (first|(simp only [h1,Off.s_noOwn,Off.s_isV,Off.s_size,↓bG,aD,↓wA,↓wC,wB,aF,aE,reduceEqDiff,reduceAdd,reduceSub,reduceIte,reduceCtorEq,Nat.reduceBEq,reduceLT,aP])|((first|apply aB|apply aC|apply aA)<;>intro h<;>try simp only [h]))
  refine aZ (kU code cv k3 s3 x hc (by omega) i1) rfl rfl rfl (zU 5 4 code cv rfl rfl) ?_
  rintro _ _ ⟨t,k4,s4,rfl,rfl,hk4,hk4',ht⟩
  refine ⟨⟨rfl,rfl⟩,?_⟩
  have hF:=rG x t.k t.i t.a t.v (vU i1)
  repeat' (first|(simp only [hst,Stp.d_isV,Stp.d_size,↓hZ,aCx,aJ,Off.s_noOwn,Off.s_isV,Off.s_size,↓bG,aD,↓wA,↓wC,wB,aF,aE,reduceEqDiff,reduceAdd,reduceSub,reduceIte,reduceCtorEq,Nat.reduceBEq,reduceLT,aP])|(refine aG (hF) rfl rfl ?_)|(refine aH (hF) rfl rfl ?_)|(with_reducible refine aQ ?_ ?_; focus (intro h; cases h))|(with_reducible refine aQ ?_ ?_; focus omega)|(with_reducible refine aI ?_ ?_; focus (simp only [bQ]; omega))|((first|apply aB|apply aC|apply aA)<;>intro h<;>try simp only [h]))
  refine aQ (fun h=>by cases h) (aQ ⟨by omega,by omega⟩ ?_)
  repeat' (first|(simp only [hst,Stp.d_isV,Stp.d_size,aJ,Off.s_noOwn,Off.s_isV,Off.s_size,↓bG,aD,↓wA,↓wC,wB,aF,aE,reduceEqDiff,reduceAdd,reduceSub,reduceIte,reduceCtorEq,Nat.reduceBEq,reduceLT,aP])|(refine aG (hF) rfl rfl ?_)|(refine aH (hF) rfl rfl ?_)|((first|apply aB|apply aC|apply aA)<;>intro h<;>try simp only [h]))
  all_goals refine aI (by simp only [bQ]; omega) ?_
  ·exact ⟨(fQ x t.k t.i t.a t.v,L ++ [t],n - 1,k4,s4),(aN _ rfl ⟨⟨rfl,rfl⟩,⟨rfl,rfl⟩,⟨rfl,rfl⟩,⟨rfl,rfl⟩,⟨rfl,rfl⟩,⟨rfl,rfl⟩,trivial⟩),⟨aBN h,by simp only; omega,by simp only [List.length_append,List.length_singleton]; omega,by simp only; omega⟩,by simp only; omega⟩
  ·exact ⟨(x,L ++ [t],n - 1,k4,s4),(aN _ rfl ⟨⟨rfl,rfl⟩,⟨rfl,rfl⟩,⟨rfl,rfl⟩,⟨rfl,rfl⟩,⟨rfl,rfl⟩,⟨rfl,rfl⟩,trivial⟩),⟨i1,by simp only; omega,by simp only [List.length_append,List.length_singleton]; omega,by simp only; omega⟩,by simp only; omega⟩
end Go.Pe.Tryz
