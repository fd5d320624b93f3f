/- Marks on lists of numbers, walked; Marks on offices, walked; Steps of an office: the law of StepOffice; Marks on consoles; The law of ExecuteCommand -/
import Derived.Test.YtjmobminbckhjaaGreatDoorPeD
import Derived.Test.YtjmobminbckhjaaGreatDoorMc1
import Derived.Test.YtjmobminbckhjaaGreatDoorMc2
import Derived.Test.YtjmobminbckhjaaGreatDoorMc3
import Derived.Test.YtjmobminbckhjaaGreatDoorMc4
import Derived.Test.YtjmobminbckhjaaGreatDoorMc5
import Derived.Test.YtjmobminbckhjaaGreatDoorMc6
import Derived.Test.YtjmobminbckhjaaGreatDoorMc7
import Derived.Test.YtjmobminbckhjaaGreatDoorMc8
import Derived.Test.YtjmobminbckhjaaGreatDoorW7
import Derived.Test.YtjmobminbckhjaaGreatDoorW2
import Derived.Test.YtjmobminbckhjaaGreatDoorW5
import Derived.Test.YtjmobminbckhjaaGreatDoorW6
import Derived.Handy
set_option maxRecDepth 100000
set_option maxHeartbeats 4000000
set_option linter.all false
open Nat renaming reduceBEq->aA, reduceEqDiff->aB, reduceAdd->aC, reduceSub->aD, reduceLT->aE
namespace Go.Pe.Tryz
open Go.Proofs.Tryz
theorem aNp (n:Nat) (k:Int) (h0:0<=k) (h1:k<=1000000000000000) (hlen:n<=1048576):Fn prog 119 [.sl false 1 (dl iD (ups n k)),.int .i64 k] (fun rs=>rs=[.int .i64 (k + n)]):=by
 refine cW aRc [] ?_
 dsimp only [aRc,cT,c7]
 try simp only [↓wA,↓wC,wB,cL,cK,aB,aC,aD,reduceIte,reduceCtorEq,aA,aE]
 refine d5 (fun i:Nat=>⟨[(0,.d (.sl false 1 (dl iD (ups n k)))),(1,.d (.int .i64 (k + i))),(5,.d (.int .i64 i))],[]⟩)
  (fun i=>i<=n) (fun i=>n - i) 0
  (cU [] rfl ⟨⟨rfl,rfl⟩,⟨congrArg (fun n=>SV.d (.int .i64 n)) (by simp),rfl⟩,⟨rfl,rfl⟩,trivial⟩) (Nat.zero_le _) ?_
 intro i hi
 have hl:=vC n k
 by_cases hlt:i < n
 ·have hw:=aFe n k i hlt
  have hd:decide ((i:Int) < (n:Int))=true:=decide_eq_true (by omega)
  have h0:(0:Int)<=(i:Int):=by omega
  repeat' (first|(simp only [cO,hl,hd,c6,Int.toNat_natCast,hw,Option.map_some,h0,cJ,iD,↓wA,↓wC,wB,cL,cK,aB,aC,aD,reduceIte,reduceCtorEq,aA,aE])|(refine cP (by simp only [dW]; omega) ?_)|((first|apply cG|apply cH|apply cF)<;>intro h<;>try simp only [h]))
  refine ⟨i + 1,cU [] rfl ⟨⟨rfl,rfl⟩,⟨?_,rfl⟩,⟨rfl,rfl⟩,trivial⟩,by omega,by omega⟩
  exact congrArg (fun n=>SV.d (.int .i64 n)) (by omega)
 ·have hd:decide ((i:Int) < (n:Int))=false:=decide_eq_false (by omega)
  have e:i=n:=by omega
  try simp only [cO,hl,hd,↓wA,↓wC,wB,cL,cK,aB,aC,aD,reduceIte,reduceCtorEq,aA,aE]
  rw [e]
theorem aDG:∀ (xs:List Cs) (k:Int) (i:Nat) (x:Cs),xs[i]?=some x->(lG k xs)[i]?=some (mC (k + j4 (xs.take i)) x)
 | [],_,i,x,h=>by simp at h
 | y :: ys,k,0,x,h=>by
  simp only [List.getElem?_cons_zero,Option.some.injEq] at h
  subst h
  simp [lG,j4]
 | y :: ys,k,i + 1,x,h=>by
  simp only [List.getElem?_cons_succ] at h
  simp only [lG,List.getElem?_cons_succ,List.take_succ_cons,j4]
  rw [aDG ys _ i x h,Int.add_assoc]
theorem aV5 {K:Int} {x:Cs}:(mC K x).i=K:=rfl
theorem aV3 {K:Int} {x:Cs}:(mC K x).a=K + 1:=rfl
theorem aV4 {K:Int} {x:Cs}:(mC K x).d=K + 1 + 1:=by simp only [mC]; omega
theorem aVW {K:Int} {x:Cs}:(mC K x).h=ups x.h.length (K + 1 + 1 + 1):=by
 have:K + 1 + 1 + 1=K + 3:=by omega
 rw [this]; rfl
theorem aEK (xs:List Cs) (k:Int) (h0:0<=k) (h1:k<=1000) (hlen:xs.length<=1048576) (hx:∀ x∈xs,x.ok0):Fn prog 78 [.sl false 4 (dl Cs.s (lG k xs)),.int .i64 k] (fun rs=>rs=[.int .i64 (k + j4 xs)]):=by
 refine cW aVg [] ?_
 dsimp only [aVg,cT,c7]
 simp only [cO,j9,↓wA,↓wC,wB,cL,cK,aB,aC,aD,reduceIte,reduceCtorEq,aA,aE]
 refine dR xs.length (fun i:Nat=>⟨[(0,.d (.sl false 4 (dl Cs.s (lG k xs)))),(1,.d (.int .i64 (k + j4 (xs.take i)))),(5,.d (.int .i64 i))],[]⟩) (fun _=>True) (cU _ rfl ⟨⟨rfl,rfl⟩,⟨congrArg (fun n=>SV.d (.int .i64 n)) (by simp [j4]),rfl⟩,⟨rfl,rfl⟩,trivial⟩) trivial ?_ ?_
 ·intro i hlt _ hd hi0
  obtain ⟨x,hr⟩:=dQ hlt
  have hL:=aDG xs k i x hr
  have hb:=pD (xs.take i) (fun y hy=>hx y (List.mem_of_mem_take hy))
  have hbl:(xs.take i).length<=1048576:=by simp; omega
  have es:k + j4 (xs.take (i + 1))=k + j4 (xs.take i) + 3 + x.h.length:=by
   rw [e7 hr,aAt,sC]; omega
  generalize hK:k + j4 (xs.take i)=K at hL es
  have hK0:0<=K:=by omega
  have hK1:K<=10000000000000:=by omega
  have hxo:=hx x (List.mem_of_getElem? hr)
  have m1:=aNp x.h.length (K + 1 + 1 + 1) (by omega) (by omega) hxo
  have n1:decide (K + 1 + 1 + 1 + (x.h.length:Int) < 0)=false:=decide_eq_false (by omega)
  repeat' (first|(simp only [cO,j9,hd,hi0,c6,Int.toNat_natCast,hL,Option.map_some,cJ,↓pR,↓wP,↓sS,↓uL,aV5,aV3,aV4,aVW,cY,n1,↓wA,↓wC,wB,cL,cK,aB,aC,aD,reduceIte,reduceCtorEq,aA,aE])|(refine cI (m1) rfl rfl ?_)|(refine cM (m1) rfl rfl ?_)|(refine cP (by simp only [dW]; omega) ?_)|((first|apply cG|apply cH|apply cF)<;>intro h<;>try simp only [h]))
  refine ⟨i + 1,cU _ rfl ⟨⟨rfl,rfl⟩,⟨congrArg (fun n=>SV.d (.int .i64 n)) ?_,rfl⟩,⟨rfl,rfl⟩,trivial⟩,by omega,by omega⟩
  rw [es]; omega
 ·intro _ hd
  have e1:xs.take xs.length=xs:=List.take_length
  rw [e1]
  simp only [cO,j9,hd,↓wA,↓wC,wB,cL,cK,aB,aC,aD,reduceIte,reduceCtorEq,aA,aE]
theorem aDp (o:Off) (k:Int) (h0:0<=k) (h1:k<=1000) (ho:o.ok0):Fn prog 43 [(mO k o).s,.int .i64 k] (fun rs=>rs=[.int .i64 (k + j4 o.cs + o.led.length)]):=by
 have hb:=pD o.cs ho.1.2
 have hbl:=ho.1.1
 have hll:=ho.2.1
 have m1:=aEK o.cs k h0 h1 ho.1.1 ho.1.2
 have m2:=aHy o.led.length (k + j4 o.cs) (by omega) (by omega) ho.2.1
 have n1:decide (k + j4 o.cs < 0)=false:=decide_eq_false (by omega)
 have n2:decide (k + j4 o.cs + (o.led.length:Int) < 0)=false:=decide_eq_false (by omega)
 refine cW aTW [] ?_
 dsimp only [aTW,cT,c7]
 repeat' (first|(simp only [Off.s,dU,mO,cX,cR,n1,n2,cJ,↓wA,↓wC,wB,cL,cK,aB,aC,aD,reduceIte,reduceCtorEq,aA,aE])|(refine cI (m1) rfl rfl ?_)|(refine cM (m1) rfl rfl ?_)|(refine cI (m2) rfl rfl ?_)|(refine cM (m2) rfl rfl ?_)|((first|apply cG|apply cH|apply cF)<;>intro h<;>try simp only [h]))
end Go.Pe.Tryz
namespace Go.Pe.Tryz
open Go.Proofs.Tryz Go.Sort
theorem aBU (x:Con) (k:Int) (h0:0<=k) (h1:k<=1000) (ho:x.o.ok0):Fn prog 16 [(Con.mk (mO k x.o) x.d x.p x.c).s,.int .i64 k] (fun rs=>rs=[.int .i64 (k + j4 x.o.cs + x.o.led.length)]):=by
 have hC:=aDp x.o k h0 h1 ho
 have hb:=pD x.o.cs ho.1.2
 have hn:decide (k + j4 x.o.cs + (x.o.led.length:Int) < 0)=false:=decide_eq_false (by omega)
 refine cW aVr [] ?_
 dsimp only [aVr,cT,c7]
 repeat' (first|(simp only [Con.s,oZ,fE,hn,aWv,aWw,aWz,↓dF,cJ,↓wA,↓wC,wB,cL,cK,aB,aC,aD,reduceIte,reduceCtorEq,aA,aE])|(refine cI (hC) rfl rfl ?_)|(refine cM (hC) rfl rfl ?_)|((first|apply cG|apply cH|apply cF)<;>intro h<;>try simp only [h]))
theorem lawExec_fn (x:Con) (l:List UInt8) (hr:x.raw) (hl:l.length<=maxLen):Fn prog 4 [x.s,.str l] (fun rs=>rs=[.bool true]):=by
 by_cases hL:1048576 < (l.length:Int)
 ·have hd:decide (1048576 < (l.length:Int))=true:=decide_eq_true hL
  refine cW ef4 [[1,0,0]] ?_
  dsimp only [ef4,cT,c7]
  repeat' (first|(simp only [hd,aWx,aWy,↓eA,cJ,↓wA,↓wC,wB,cL,cK,aB,aC,aD,reduceIte,reduceCtorEq,aA,aE])|((first|apply cG|apply cH|apply cF)<;>intro h<;>try simp only [h]))
  refine c8 (gI 0 rfl) ?_
  simp only [cL,cK,aWB,↓wA,↓wC,wB,cL,cK,aB,aC,aD,reduceIte,reduceCtorEq,aA,aE]
  repeat' (first|(simp only [hd,aWx,aWy,↓eA,cJ,↓wA,↓wC,wB,cL,cK,aB,aC,aD,reduceIte,reduceCtorEq,aA,aE])|((first|apply cG|apply cH|apply cF)<;>intro h<;>try simp only [h]))
 have hd:decide (1048576 < (l.length:Int))=false:=decide_eq_false hL
 refine cW ef4 [[1,0,0]] ?_
 dsimp only [ef4,cT,c7]
 repeat' (first|(simp only [hd,aWx,aWy,↓eA,cJ,↓wA,↓wC,wB,cL,cK,aB,aC,aD,reduceIte,reduceCtorEq,aA,aE])|((first|apply cG|apply cH|apply cF)<;>intro h<;>try simp only [h]))
 refine c8 (gI 0 rfl) ?_
 simp only [cL,cK,aWB,↓wA,↓wC,wB,cL,cK,aB,aC,aD,reduceIte,reduceCtorEq,aA,aE]
 repeat' (first|(simp only [hd,aWx,aWy,↓eA,cJ,↓wA,↓wC,wB,cL,cK,aB,aC,aD,reduceIte,reduceCtorEq,aA,aE])|((first|apply cG|apply cH|apply cF)<;>intro h<;>try simp only [h]))
 refine lT (zA x hr) (by simp [dB,dI,aWB]) fun rs h=>?_
 obtain ⟨m,rfl,m1,m2,m3⟩:=h
 refine ⟨.inl rfl,?_⟩
 cases hm:decide (m < 0) with
 | true =>
  repeat' (first|(simp only [hm,↓wA,↓wC,wB,cL,cK,aB,aC,aD,reduceIte,reduceCtorEq,aA,aE])|((first|apply cG|apply cH|apply cF)<;>intro h<;>try simp only [h]))
 | false =>
  have hm':=of_decide_eq_false hm
  have ho:=m3 (by omega)
  have hS:=aAO x l ho (by omega)
  have hI:=aAG x l ho (by omega)
  have hIs:=zB x l ho (by omega)
  have hT:=wG x ho
  have hTs:Fn prog 12 [x.s] (fun rs=>rs=[x.s]):=by simpa [aWJ] using fX hT
  have hx:=aJA (l:=l) ho
  generalize (exC x l).2=r at hS hI hIs
  generalize (exC x l).1=y at hS hI hIs hx
  have hE:=pQ x ho
  have hEy:=pQ y hx
  have bo:=pD x.o.cs ho.1.1.2
  have bx:=pD y.o.cs hx.1.1.2
  have lo:=ho.1.2.1
  have lx:=hx.1.2.1
  have hMo:=pP x 1 (by omega) (by omega) ho.1
  have hMx:=pP y 1 (by omega) (by omega) hx.1
  have hH:=aBU y 1 (by omega) (by omega) hx.1
  have n1:decide (1 + j4 x.o.cs + (x.o.led.length:Int) < 0)=false:=decide_eq_false (by omega)
  have n3:decide (1 + j4 y.o.cs + (y.o.led.length:Int) < 0)=false:=decide_eq_false (by omega)
  have hrr:(r == r)=true:=beq_self_eq_true r
  have hrd:decide (r=r)=true:=decide_eq_true rfl
  have hoA:([y.o',.str r].all D.allOwn)=true:=by simp [D.allOwn,Con.o',oZ,fE,aWQ]
  have hno:∀ q:Con,q.o'.noOwn=false:=fun q=>by simp [Con.o',oZ,D.noOwn,aWP]
  have hoB:∀ q:Con,q.o'.isStB=true:=fun q=>rfl
  have hb2:∀ q:Con,q.s.isStB=true:=fun q=>rfl
  repeat' (first|(simp only [hm,aWx,aWy,aWA,aWB,↓eA,cJ,↓wA,↓wC,wB,cL,cK,aB,aC,aD,reduceIte,reduceCtorEq,aA,aE])|((first|apply cG|apply cH|apply cF)<;>intro h<;>try simp only [h]))
  refine cI hTs rfl rfl ?_
  repeat' (first|(simp only [aWx,aWy,aWA,aWB,↓eA,cJ,↓wA,↓wC,wB,cL,cK,aB,aC,aD,reduceIte,reduceCtorEq,aA,aE])|(refine cI hS rfl rfl ?_)|((first|apply cG|apply cH|apply cF)<;>intro h<;>try simp only [h]))
  repeat' (first|(simp only [aWx,aWy,aWA,aWB,aWL,aWI,hno,hoB,↓eA,cJ,hrr,hrd,n1,n3,↓wA,↓wC,wB,cL,cK,aB,aC,aD,reduceIte,reduceCtorEq,aA,aE])|(refine cI hT rfl rfl ?_)|(refine cI hI (by show some [x.o'.unown,D.str l]=_; rw [aWJ]) (by rw [hoA,Bool.or_true]) ?_)|(refine cI hEy rfl rfl ?_)|(refine cI hEy (congrArg (fun d:D=>some [d,y.s]) (aWJ y)) rfl ?_)|(refine cM hTs (by simp [dB,dI,aWB]) rfl ?_)|(refine cM hE (congrArg (fun d:D=>some [d,x.s]) (aWJ x)) rfl ?_)|(refine xH hMo rfl rfl rfl ?_)|(refine xH hMx rfl rfl rfl ?_)|(refine cI hH (congrArg (fun d:D=>some [d,.int .i64 1]) (aWJ ⟨mO 1 y.o,y.d,y.p,y.c⟩)) rfl ?_)|((first|apply cG|apply cH|apply cF)<;>intro h<;>try simp only [h]))
theorem lawExec (x0 x1:D) (h0:jR conSh x0) (h1:jR .str x1):Fn prog 4 [x0,x1] (fun rs=>rs=[.bool true]):=by
 obtain ⟨x,rfl,hr⟩:=aLM x0 h0
 obtain ⟨l,rfl,hl⟩:=aI2 x1 h1
 exact lawExec_fn x l hr hl
end Go.Pe.Tryz
