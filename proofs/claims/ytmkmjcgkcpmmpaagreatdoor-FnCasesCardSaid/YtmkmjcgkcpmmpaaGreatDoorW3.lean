/- Steps of an office: a case is dealt with; walked; Steps of an office: a step with a case; walked; Steps of an office: a step; walked; Steps of an office: the program's StepOffice; walked; Runs of steps of an office: the program's RunOffice; walked; Steps of an office: the reference's own copy; walked; Steps of an office: the reference's l25Step, l25Enter; walked; Steps of an office: the reference's l25Release; walked; Steps of an office: the reference's l25Act; walked; A party heard, walked; A party heard as the reference has it, walked -/
import Derived.Test.YtmkmjcgkcpmmpaaGreatDoorW2
import Derived.Test.YtmkmjcgkcpmmpaaGreatDoorPeD
import Derived.Test.YtmkmjcgkcpmmpaaGreatDoorMc1
import Derived.Test.YtmkmjcgkcpmmpaaGreatDoorMc2
import Derived.Test.YtmkmjcgkcpmmpaaGreatDoorMc3
import Derived.Test.YtmkmjcgkcpmmpaaGreatDoorMc4
import Derived.Test.YtmkmjcgkcpmmpaaGreatDoorMc5
import Derived.Test.YtmkmjcgkcpmmpaaGreatDoorW1
set_option maxRecDepth 100000
set_option maxHeartbeats 4000000
set_option linter.all false
namespace Go.Pe.Tryz
open Nat (reduceEqDiff reduceAdd reduceSub reduceLT)
open Go.Proofs.Tryz
def xE (xs:List Cs):List (Bool×Cs):=xs.map fun x=>(true,x)
theorem aJ7 (xs:List Cs):dl cm (xE xs)=dl Cs.o xs:=by
 simp only [dl,xE,List.map_map]; rfl
theorem aJg {xs:List Cs} {i:Nat} {x:Cs} (hr:xs[i]?=some x):(xE xs)[i]?=some (true,x):=by simp [xE,hr]
theorem aHS {xs:List Cs} {i:Nat} {p:Bool×Cs} (hi:i < xs.length):(((xE xs).set i p).map cm).take i ++ (((xE xs).set i p).map cm).drop (i + 1)=(xs.eraseIdx i).map Cs.o:=by
 rw [<- List.map_take,<-List.map_drop,List.take_set_of_le (Nat.le_refl _),List.drop_set_of_lt (by omega),<-List.map_append]
 unfold xE
 rw [<- List.map_take,<-List.map_drop,<-List.map_append,List.map_map,List.eraseIdx_eq_take_drop_succ]
 rfl
theorem aKM (xs:List (Bool×Cs)):∀ d∈xs.map cm,d.size=4:=fun d hd=>by
 obtain ⟨⟨b,x⟩,_,rfl⟩:=List.mem_map.1 hd
 cases b<;>rfl
theorem aI0 (L:List (List UInt8)) (s:List UInt8):(dl D.str L).app (D.cons (.str s) .nil)=dl D.str (L ++ [s]):=iG (f:=D.str) L s
theorem aIZ (a b:List UInt8):([114] ++ a) ++ [32,100] ++ b=114 :: (a ++ 32 :: 100 :: b):=by simp
theorem aLA (o:Off) (i:Nat) (x:Cs) (ho:cM o=true) (hr:o.cs[i]?=some x):wP prog 104 true o.o [.int .i64 i] (fun x' rs=>rs=[.bool (cY o x)]/\(cY o x=true->x'=(jM o i x).o)):=by
 have hp:=dG ho
 have hx:=dX (hp.2.2.2.2.2.2.2.2.2 x (List.mem_of_getElem? hr))
 have hil:=bC hr
 have hi0:(0:Int)<=(i:Int):=by omega
 have hgA:=aJg hr
 have hgn:(dl Cs.o o.cs).nth i=some (x.p (.sl true 1 (dl iD x.h))):=by rw [bW,hr]; rfl
 have hcmf:cm (false,x)=x.p (.sl false 1 (dl iD x.h)):=rfl
 have hset:(dl Cs.o o.cs).setN i (x.p (.sl false 1 (dl iD x.h)))=dl cm ((xE o.cs).set i (false,x)):=by
  rw [<- aJ7,<-hcmf,i8]
 have hgF:((xE o.cs).set i (false,x))[i]?=some (false,x):=by
  rw [List.getElem?_set,if_pos rfl,if_pos (bC hgA)]
 have hxs:x.p (.sl false 1 (dl iD x.h))=x.s:=rfl
 have hD:=aE8 (((xE o.cs).set i (false,x)).map cm) (aKM _) i (i + 1) (by omega) (by simp [xE]; omega)
 rw [aHS hil,show ((i + 1:Nat):Int)=(i:Int) + 1 by omega] at hD
 have hD:wP prog 120 false (.sl true 4 (dl cm ((xE o.cs).set i (false,x)))) [.int .i64 i,.int .i64 ((i:Int) + 1)] (fun x' rs=>(∃ u,x'=.lnk 0 u)/\rs=[.sl true 4 (dl Cs.o (o.cs.eraseIdx i))]):=hD
 refine mP (ps:=[[1,1,1,0,1,0,1,1,1,1,1],[1,0],[1,0]]) (fn:=f104) (by exact func104) aRu aR6 (n:=75) (by rfl) (rv:=[.tmp 4]) (by rfl) (by decide) (by simp) ?_
 unfold aO1
 try simp only [wQ]
 simp only [dP,eR]
 simp only [Off.o,cG]
 repeat' (first|(simp only [aV,↓wA,↓wC,wB,aY,aW,reduceEqDiff,reduceAdd,reduceSub,reduceIte,reduceCtorEq,Nat.reduceBEq,reduceLT])|((first|apply aO|apply aQ|apply aK)<;>intro h<;>try simp only [h]))
 refine dQ _ (eA 0 none [1] (es:=4) (xs:=dl Cs.o o.cs) rfl rfl) fun v1=>?_
 simp only [cX,↓wA,↓wC,wB,aY,aW,reduceEqDiff,reduceAdd,reduceSub,reduceIte,reduceCtorEq,Nat.reduceBEq,reduceLT]
 refine bR (freeze 1 (some i) [3] (x:=.sl true 1 (dl iD x.h)) rfl (by simp only [iY,hgn,Option.bind_some,dR]) rfl) ?_
 simp only [cX,hgn,Option.getD_some,dO,D.unown,c9,hset,↓wA,↓wC,wB,aY,aW,reduceEqDiff,reduceAdd,reduceSub,reduceIte,reduceCtorEq,Nat.reduceBEq,reduceLT]
 have hdl:(1:Int)<=o.cs.length:=by omega
 cases h1:decide (o.day < x.d) with
 | true =>
  have hB:cY o x=false:=by
   have:=of_decide_eq_true h1
   unfold cY
   rw [decide_eq_false (by omega)]; rfl
  repeat' (first|(simp only [bW,hi0,hgF,hcmf,Int.toNat_natCast,Option.map_some,aV,bJ,hxs,↓gH,Cs.s_isV,Cs.s_size,eZ,eX,iA,iB,gU,gT,fB,fC,a7,h1,↓wA,↓wC,wB,aY,aW,reduceEqDiff,reduceAdd,reduceSub,reduceIte,reduceCtorEq,Nat.reduceBEq,reduceLT])|((first|apply aO|apply aQ|apply aK)<;>intro h<;>try simp only [h]))
  all_goals exact ⟨by rw [hB],fun h=>by rw [hB] at h; cases h⟩
 | false =>
  have h1':=of_decide_eq_false h1
  have h0:decide (x.d<=o.day)=true:=decide_eq_true (by omega)
  cases h2:decide (x.a=1) with
  | true =>
   have h2':=of_decide_eq_true h2
   have hB:cY o x=true:=by unfold cY; rw [h0,h2]; rfl
   have hO:(jM o i x).o=cG { o with kept:=o.kept + 1 } (.sl true 4 (dl Cs.o (o.cs.eraseIdx i))) (.sl true 1 (dl D.str o.led)):=by
    unfold jM; rw [if_pos h2']; rfl
   repeat' (first|(simp only [bW,hi0,hgF,hcmf,Int.toNat_natCast,Option.map_some,aV,bJ,hxs,↓gH,Cs.s_isV,Cs.s_size,eZ,eX,iA,iB,gU,gT,fB,fC,a7,h1,h2,↓wA,↓wC,wB,aY,aW,reduceEqDiff,reduceAdd,reduceSub,reduceIte,reduceCtorEq,Nat.reduceBEq,reduceLT])|(with_reducible refine bA ?_ ?_; focus (simp only [cV]; omega))|((first|apply aO|apply aQ|apply aK)<;>intro h<;>try simp only [h]))
   refine dF (bx:=false) (r:=1) hD rfl rfl rfl ?_
   rintro _ _ ⟨⟨u,rfl⟩,rfl⟩
   repeat' (first|(simp only [bW,hi0,hgF,hcmf,Int.toNat_natCast,Option.map_some,aV,bJ,hxs,↓gH,Cs.s_isV,Cs.s_size,eZ,eX,iA,iB,gU,gT,fB,fC,a7,↓wA,↓wC,wB,aY,aW,reduceEqDiff,reduceAdd,reduceSub,reduceIte,reduceCtorEq,Nat.reduceBEq,reduceLT])|((first|apply aO|apply aQ|apply aK)<;>intro h<;>try simp only [h]))
   all_goals exact ⟨by rw [hB],fun _=>hO.symm⟩
  | false =>
   have h2':=of_decide_eq_false h2
   cases h3:decide (x.a=2) with
   | true =>
    have h3':=of_decide_eq_true h3
    have hB:cY o x=true:=by unfold cY; rw [h0,h2,h3]; rfl
    have hO:(jM o i x).o=cG { o with moved:=o.moved + 1 } (.sl true 4 (dl Cs.o (o.cs.eraseIdx i))) (.sl true 1 (dl D.str o.led)):=by
     unfold jM; rw [if_neg h2',if_pos h3']; rfl
    repeat' (first|(simp only [bW,hi0,hgF,hcmf,Int.toNat_natCast,Option.map_some,aV,bJ,hxs,↓gH,Cs.s_isV,Cs.s_size,eZ,eX,iA,iB,gU,gT,fB,fC,a7,h1,h2,h3,↓wA,↓wC,wB,aY,aW,reduceEqDiff,reduceAdd,reduceSub,reduceIte,reduceCtorEq,Nat.reduceBEq,reduceLT])|(with_reducible refine bA ?_ ?_; focus (simp only [cV]; omega))|((first|apply aO|apply aQ|apply aK)<;>intro h<;>try simp only [h]))
    refine dF (bx:=false) (r:=1) hD rfl rfl rfl ?_
    rintro _ _ ⟨⟨u,rfl⟩,rfl⟩
    repeat' (first|(simp only [bW,hi0,hgF,hcmf,Int.toNat_natCast,Option.map_some,aV,bJ,hxs,↓gH,Cs.s_isV,Cs.s_size,eZ,eX,iA,iB,gU,gT,fB,fC,a7,↓wA,↓wC,wB,aY,aW,reduceEqDiff,reduceAdd,reduceSub,reduceIte,reduceCtorEq,Nat.reduceBEq,reduceLT])|((first|apply aO|apply aQ|apply aK)<;>intro h<;>try simp only [h]))
    all_goals exact ⟨by rw [hB],fun _=>hO.symm⟩
   | false =>
    have h3':=of_decide_eq_false h3
    cases h4:decide ((0:Int) < (x.h.length:Int)) with
    | true =>
     have h4':=of_decide_eq_true h4
     have hB:cY o x=false:=by unfold cY; rw [h0,h2,h3,decide_eq_false (by omega)]; rfl
     repeat' (first|(simp only [bW,hi0,hgF,hcmf,Int.toNat_natCast,Option.map_some,aV,bJ,hxs,↓gH,Cs.s_isV,Cs.s_size,eZ,eX,iA,iB,gU,gT,fB,fC,a7,h1,h2,h3,h4,↓wA,↓wC,wB,aY,aW,reduceEqDiff,reduceAdd,reduceSub,reduceIte,reduceCtorEq,Nat.reduceBEq,reduceLT])|((first|apply aO|apply aQ|apply aK)<;>intro h<;>try simp only [h]))
     all_goals exact ⟨by rw [hB],fun h=>by rw [hB] at h; cases h⟩
    | false =>
     have h4':=of_decide_eq_false h4
     have hB:cY o x=true:=by unfold cY; rw [h0,h2,h3,decide_eq_true (show x.h.length=0 by omega)]; rfl
     have hO:(jM o i x).o=cG o (.sl true 4 (dl Cs.o (o.cs.eraseIdx i))) (.sl true 1 (dl D.str (o.led ++ [kM x.i o.day]))):=by
      unfold jM; rw [if_neg h2',if_neg h3']; rfl
     have hiR:cV .i64 x.i:=by simp only [cV]; omega
     have hdR:cV .i64 o.day:=by simp only [cV]; omega
     have hN1:=lO x.i hiR
     have hN2:=lO o.day hdR
     have hl1:=fA x.i hiR
     have hl2:=fA o.day hdR
     have hE:=aIZ (Lib.itoa x.i) (Lib.itoa o.day)
     have hE':114 :: (Lib.itoa x.i ++ 32 :: 100 :: Lib.itoa o.day)=kM x.i o.day:=rfl
     repeat' (first|(simp only [bW,hi0,hgF,hcmf,Int.toNat_natCast,Option.map_some,aV,bJ,hxs,↓gH,Cs.s_isV,Cs.s_size,eZ,eX,iA,iB,gU,gT,fB,fC,a7,h1,h2,h3,h4,↓wA,↓wC,wB,aY,aW,reduceEqDiff,reduceAdd,reduceSub,reduceIte,reduceCtorEq,Nat.reduceBEq,reduceLT])|((first|apply aO|apply aQ|apply aK)<;>intro h<;>try simp only [h]))
     refine dQ _ (eA 0 none [4] (es:=1) (xs:=dl D.str o.led) rfl rfl) fun v2=>?_
     simp only [cX,↓wA,↓wC,wB,aY,aW,reduceEqDiff,reduceAdd,reduceSub,reduceIte,reduceCtorEq,Nat.reduceBEq,reduceLT]
     repeat' (first|(simp only [bW,hi0,hgF,hcmf,Int.toNat_natCast,Option.map_some,aV,bJ,hxs,↓gH,Cs.s_isV,Cs.s_size,eZ,eX,iA,iB,gU,gT,fB,fC,a7,h1,h2,h3,h4,hE,hE',aI0,↓wA,↓wC,wB,aY,aW,reduceEqDiff,reduceAdd,reduceSub,reduceIte,reduceCtorEq,Nat.reduceBEq,reduceLT])|(refine aZ (hN1) rfl rfl ?_)|(refine a6 (hN1) rfl rfl ?_)|(refine aZ (hN2) rfl rfl ?_)|(refine a6 (hN2) rfl rfl ?_)|(refine cT ?_)|(with_reducible refine bA ?_ ?_; focus (simp only [cV]; omega))|(with_reducible refine bK ?_ ?_; focus omega)|(with_reducible refine bK ?_ ?_; focus (simp only [List.length_append,List.length_cons,List.length_nil]; omega))|((first|apply aO|apply aQ|apply aK)<;>intro h<;>try simp only [h]))
     refine bK (by simp) (bK (by omega) ?_)
     refine bA (by simp only [cV]; omega) ?_
     refine dF (bx:=false) (r:=1) hD rfl rfl rfl ?_
     rintro _ _ ⟨⟨u,rfl⟩,rfl⟩
     repeat' (first|(simp only [bW,hi0,hgF,hcmf,Int.toNat_natCast,Option.map_some,aV,bJ,hxs,↓gH,Cs.s_isV,Cs.s_size,eZ,eX,iA,iB,gU,gT,fB,fC,a7,↓wA,↓wC,wB,aY,aW,reduceEqDiff,reduceAdd,reduceSub,reduceIte,reduceCtorEq,Nat.reduceBEq,reduceLT])|((first|apply aO|apply aQ|apply aK)<;>intro h<;>try simp only [h]))
     all_goals exact ⟨by rw [hB],fun _=>hO.symm⟩
end Go.Pe.Tryz
set_option maxRecDepth 100000
set_option maxHeartbeats 4000000
set_option linter.all false
namespace Go.Pe.Tryz
open Nat (reduceEqDiff reduceAdd reduceSub reduceLT)
open Go.Proofs.Tryz
def lG (k id a v:Int):D:=.st (.cons (.int .i64 k) (.cons (.int .i64 id) (.cons (.int .i64 a) (.cons (.int .i64 v) .nil))))
theorem aM8 {o:List Ob} {K:SV->Prop} {k id a v:Int}:dY o (some 4) (lG k id a v) K=K (.d (lG k id a v)):=by simp [lG,dY,D.size,D.noOwn]
def aJd (r:Option Off) (x':D) (rs:List D):Prop:=rs=[.bool r.isSome]/\∀ o',r=some o'->x'=o'.o
theorem kH {r:Option Off} {x':D} (h:r=none):aJd r x' [.bool false]:=⟨by rw [h]; rfl,fun o' e=>by rw [h] at e; cases e⟩
theorem nC {r:Option Off} {x':D} {o':Off} (h:r=some o') (hx:x'=o'.o):aJd r x' [.bool true]:=⟨by rw [h]; rfl,fun o'' e=>by rw [h] at e; injection e with e; rw [<- e,hx]⟩
def u5 (o:Off) (i:Nat) (x:Cs) (k v:Int):Option Off :=
 if k=3 then (if x.h.contains v=true then none else some { o with cs:=o.cs.set i { x with h:=jS v x.h } })
 else if k=5 then (if 1<=v then some { o with cs:=o.cs.set i { x with d:=x.d + v } } else none)
 else if k=6 then (if v=0/\cY o x=true then some (jM o i x) else none)
 else none
theorem aDS (o:Off) (i:Nat) (x:Cs) (k id a v:Int) (ho:cM o=true) (hr:o.cs[i]?=some x) (hv0:0<=v) (hv1:v<=20000):wP prog 73 true o.o [.int .i64 i,lG k id a v] (aJd (u5 o i x k v)):=by
 have hp:=dG ho
 have hx:=dX (hp.2.2.2.2.2.2.2.2.2 x (List.mem_of_getElem? hr))
 have hil:=bC hr
 have hi0:(0:Int)<=(i:Int):=by omega
 have hgn:(dl Cs.o o.cs).nth i=some (x.p (.sl true 1 (dl iD x.h))):=by rw [bW,hr]; rfl
 have hgs:∀ (y:D),((dl Cs.o o.cs).setN i y).nth i=some y:=fun y=>by rw [m9,if_pos rfl,hgn]; rfl
 have hxo:x.h.length<=1048576:=by omega
 have hdl:(1:Int)<=o.cs.length:=by omega
 cases h3:decide (k=3) with
 | true =>
  have h3':=of_decide_eq_true h3
  have hC:=uQ x.h v hxo
  have hC':Fn prog 59 [.sl false 1 (dl iD x.h).unown,.int .i64 v] (fun rs=>rs=[.bool (x.h.contains v)]):=by rw [c9]; exact hC
  have hO:u5 o i x k v=if x.h.contains v=true then none else some { o with cs:=o.cs.set i { x with h:=jS v x.h } }:=if_pos h3'
  refine mP (ps:=[[1,1,0,1,0,1,0,1,1,1,0],[1,1,0,1,0,1,0,1,1,1,0],[1,1,0,1,0,1,0,1,1,0],[1,1,0,1,0,1,0,0,0],[1,0]]) (fn:=f73) (by exact func73) c73 r73 (n:=65) (by rfl) (rv:=[.tmp 6]) (by rfl) (by decide) (by simp) ?_
  unfold m73
  try simp only [wQ]
  simp only [dP,eR]
  simp only [Off.o,cG,lG]
  repeat' (first|(simp only [aV,↓wA,↓wC,wB,aY,aW,reduceEqDiff,reduceAdd,reduceSub,reduceIte,reduceCtorEq,Nat.reduceBEq,reduceLT])|((first|apply aO|apply aQ|apply aK)<;>intro h<;>try simp only [h]))
  refine dQ _ (eA 0 none [1] (es:=4) (xs:=dl Cs.o o.cs) rfl rfl) fun v1=>?_
  simp only [cX,↓wA,↓wC,wB,aY,aW,reduceEqDiff,reduceAdd,reduceSub,reduceIte,reduceCtorEq,Nat.reduceBEq,reduceLT]
  repeat' (first|(simp only [hi0,Int.toNat_natCast,hgn,hgs,h3,aV,↓wA,↓wC,wB,aY,aW,reduceEqDiff,reduceAdd,reduceSub,reduceIte,reduceCtorEq,Nat.reduceBEq,reduceLT])|((first|apply aO|apply aQ|apply aK)<;>intro h<;>try simp only [h]))
  refine dQ _ (eA 2 (some i) [3] (es:=1) (xs:=dl iD x.h) rfl (by simp only [iY,hgn,Option.bind_some,dR])) fun v2=>?_
  simp only [cX,hgn,Option.getD_some,dO,↓wA,↓wC,wB,aY,aW,reduceEqDiff,reduceAdd,reduceSub,reduceIte,reduceCtorEq,Nat.reduceBEq,reduceLT]
  cases hc:x.h.contains v with
  | true =>
   rw [hc] at hC' hO
   repeat' (first|(simp only [hi0,Int.toNat_natCast,hgn,hgs,h3,aV,dV,eY,dR,dO,↓wA,↓wC,wB,aY,aW,reduceEqDiff,reduceAdd,reduceSub,reduceIte,reduceCtorEq,Nat.reduceBEq,reduceLT])|(refine aZ (hC') rfl rfl ?_)|(refine a6 (hC') rfl rfl ?_)|((first|apply aO|apply aQ|apply aK)<;>intro h<;>try simp only [h]))
   all_goals exact kH (by rw [hO]; rfl)
  | false =>
   rw [hc] at hC' hO
   have hnv:v ∉ x.h:=fun h=>by rw [List.contains_iff_mem.2 h] at hc; cases hc
   have hS:=aLo v x.h (aFC hx.2.2.2.2.2.2.2.2) hnv (by omega)
   repeat' (first|(simp only [hi0,Int.toNat_natCast,hgn,hgs,h3,aV,dV,eY,dR,dO,kK,kJ,kG,eS,a7,↓wA,↓wC,wB,aY,aW,reduceEqDiff,reduceAdd,reduceSub,reduceIte,reduceCtorEq,Nat.reduceBEq,reduceLT])|(refine aZ (hC') rfl rfl ?_)|(refine a6 (hC') rfl rfl ?_)|(refine cT ?_)|(with_reducible refine bK ?_ ?_; focus (simp; done))|(with_reducible refine bK ?_ ?_; focus omega)|((first|apply aO|apply aQ|apply aK)<;>intro h<;>try simp only [h]))
   refine dQ _ (eA 2 (some i) [3] (es:=1) (xs:=dl iD (x.h ++ [v])) rfl (by simp only [iY,hgs,Option.bind_some,dR])) fun v3=>?_
   simp only [cX,hgs,Option.getD_some,dO,dV,↓wA,↓wC,wB,aY,aW,reduceEqDiff,reduceAdd,reduceSub,reduceIte,reduceCtorEq,Nat.reduceBEq,reduceLT]
   repeat' (first|(simp only [hi0,Int.toNat_natCast,hgn,hgs,h3,aV,dV,eY,dR,dO,kK,kJ,kG,eS,a7,↓wA,↓wC,wB,aY,aW,reduceEqDiff,reduceAdd,reduceSub,reduceIte,reduceCtorEq,Nat.reduceBEq,reduceLT])|((first|apply aO|apply aQ|apply aK)<;>intro h<;>try simp only [h]))
   refine rX (bx:=false) (r:=7) hS rfl rfl rfl ?_
   repeat' (first|(simp only [hi0,Int.toNat_natCast,hgn,hgs,h3,aV,dV,eY,dR,dO,kK,kJ,kG,eS,a7,↓wA,↓wC,wB,aY,aW,reduceEqDiff,reduceAdd,reduceSub,reduceIte,reduceCtorEq,Nat.reduceBEq,reduceLT])|((first|apply aO|apply aQ|apply aK)<;>intro h<;>try simp only [h]))
   refine bR (jQ 2 8 7 (some i) [3] rfl (by simp only [iY,hgs,Option.bind_some,dR]) rfl rfl (by decide) rfl) ?_
   simp only [cX,hgs,Option.getD_some,dO,dV,↓wA,↓wC,wB,aY,aW,reduceEqDiff,reduceAdd,reduceSub,reduceIte,reduceCtorEq,Nat.reduceBEq,reduceLT]
   refine bR (jQ 0 3 2 none [1] rfl rfl rfl rfl (by decide) rfl) ?_
   simp only [cX,↓wA,↓wC,wB,aY,aW,reduceEqDiff,reduceAdd,reduceSub,reduceIte,reduceCtorEq,Nat.reduceBEq,reduceLT]
   repeat' (first|(simp only [hi0,Int.toNat_natCast,hgn,hgs,h3,aV,dV,eY,dR,dO,kK,kJ,kG,eS,a7,↓wA,↓wC,wB,aY,aW,reduceEqDiff,reduceAdd,reduceSub,reduceIte,reduceCtorEq,Nat.reduceBEq,reduceLT])|((first|apply aO|apply aQ|apply aK)<;>intro h<;>try simp only [h]))
   have e:x.p (.sl true 1 (dl iD (jS v x.h)))=Cs.o { x with h:=jS v x.h }:=rfl
   all_goals refine nC (o':={ o with cs:=o.cs.set i { x with h:=jS v x.h } }) (by rw [hO]; rfl) ?_
   rw [e,i8]; rfl
 | false =>
  have h3':=of_decide_eq_false h3
  cases h5:decide (k=5) with
  | true =>
   have h5':=of_decide_eq_true h5
   have hO:u5 o i x k v=if 1<=v then some { o with cs:=o.cs.set i { x with d:=x.d + v } } else none:=by unfold u5; rw [if_neg h3',if_pos h5']
   refine mP (ps:=[[1,1,0,1,0,1,1,1,0,1,1],[1,0]]) (fn:=f73) (by exact func73) c73 r73 (n:=65) (by rfl) (rv:=[.tmp 6]) (by rfl) (by decide) (by simp) ?_
   unfold m73
   try simp only [wQ]
   simp only [dP,eR]
   simp only [Off.o,cG,lG]
   repeat' (first|(simp only [aV,↓wA,↓wC,wB,aY,aW,reduceEqDiff,reduceAdd,reduceSub,reduceIte,reduceCtorEq,Nat.reduceBEq,reduceLT])|((first|apply aO|apply aQ|apply aK)<;>intro h<;>try simp only [h]))
   refine dQ _ (eA 0 none [1] (es:=4) (xs:=dl Cs.o o.cs) rfl rfl) fun v1=>?_
   simp only [cX,↓wA,↓wC,wB,aY,aW,reduceEqDiff,reduceAdd,reduceSub,reduceIte,reduceCtorEq,Nat.reduceBEq,reduceLT]
   repeat' (first|(simp only [hi0,Int.toNat_natCast,hgn,hgs,h3,aV,dV,eY,dR,dO,kK,kJ,kG,eS,a7,h5,↓wA,↓wC,wB,aY,aW,reduceEqDiff,reduceAdd,reduceSub,reduceIte,reduceCtorEq,Nat.reduceBEq,reduceLT])|(refine cT ?_)|(with_reducible refine bA ?_ ?_; focus (simp only [cV]; omega))|((first|apply aO|apply aQ|apply aK)<;>intro h<;>try simp only [h]))
   refine bR (jQ 0 3 2 none [1] rfl rfl rfl rfl (by decide) rfl) ?_
   simp only [cX,↓wA,↓wC,wB,aY,aW,reduceEqDiff,reduceAdd,reduceSub,reduceIte,reduceCtorEq,Nat.reduceBEq,reduceLT]
   repeat' (first|(simp only [hi0,Int.toNat_natCast,hgn,hgs,h3,aV,dV,eY,dR,dO,kK,kJ,kG,eS,a7,↓wA,↓wC,wB,aY,aW,reduceEqDiff,reduceAdd,reduceSub,reduceIte,reduceCtorEq,Nat.reduceBEq,reduceLT])|((first|apply aO|apply aQ|apply aK)<;>intro h<;>try simp only [h]))
   have e:Cs.p { i:=x.i,a:=x.a,d:=x.d + v,h:=x.h } (.sl true 1 (dl iD x.h))=Cs.o { x with d:=x.d + v }:=rfl
   by_cases hv:1<=v
   ·rw [decide_eq_true hv]
    all_goals refine nC (o':={ o with cs:=o.cs.set i { x with d:=x.d + v } }) (by rw [hO,if_pos hv]) ?_
    rw [e,i8]; rfl
   ·rw [decide_eq_false hv]
    exact kH (by rw [hO,if_neg hv])
  | false =>
   have h5':=of_decide_eq_false h5
   cases h6:decide (k=6) with
   | true =>
    have h6':=of_decide_eq_true h6
    have hO:u5 o i x k v=if v=0/\cY o x=true then some (jM o i x) else none:=by unfold u5; rw [if_neg h3',if_neg h5',if_pos h6']
    refine mP (ps:=[[1,1,0,1,0,1,1,1,1,1,0,0],[1,0]]) (fn:=f73) (by exact func73) c73 r73 (n:=65) (by rfl) (rv:=[.tmp 6]) (by rfl) (by decide) (by simp) ?_
    unfold m73
    try simp only [wQ]
    simp only [dP,eR]
    simp only [Off.o,cG,lG]
    repeat' (first|(simp only [aV,↓wA,↓wC,wB,aY,aW,reduceEqDiff,reduceAdd,reduceSub,reduceIte,reduceCtorEq,Nat.reduceBEq,reduceLT])|((first|apply aO|apply aQ|apply aK)<;>intro h<;>try simp only [h]))
    refine dQ _ (eA 0 none [1] (es:=4) (xs:=dl Cs.o o.cs) rfl rfl) fun v1=>?_
    simp only [cX,↓wA,↓wC,wB,aY,aW,reduceEqDiff,reduceAdd,reduceSub,reduceIte,reduceCtorEq,Nat.reduceBEq,reduceLT]
    repeat' (first|(simp only [hi0,Int.toNat_natCast,hgn,hgs,h3,aV,dV,eY,dR,dO,kK,kJ,kG,eS,a7,h5,h6,↓wA,↓wC,wB,aY,aW,reduceEqDiff,reduceAdd,reduceSub,reduceIte,reduceCtorEq,Nat.reduceBEq,reduceLT])|(with_reducible refine bA ?_ ?_; focus (simp only [cV]; omega))|((first|apply aO|apply aQ|apply aK)<;>intro h<;>try simp only [h]))
    refine bR (jQ 0 3 2 none [1] rfl rfl rfl rfl (by decide) rfl) ?_
    simp only [cX,↓wA,↓wC,wB,aY,aW,reduceEqDiff,reduceAdd,reduceSub,reduceIte,reduceCtorEq,Nat.reduceBEq,reduceLT]
    by_cases hv:v=0
    ·have hvd:decide (v=0)=true:=decide_eq_true hv
     repeat' (first|(simp only [hi0,Int.toNat_natCast,hgn,hgs,h3,aV,dV,eY,dR,dO,kK,kJ,kG,eS,a7,hvd,↓wA,↓wC,wB,aY,aW,reduceEqDiff,reduceAdd,reduceSub,reduceIte,reduceCtorEq,Nat.reduceBEq,reduceLT])|((first|apply aO|apply aQ|apply aK)<;>intro h<;>try simp only [h]))
     refine dF (bx:=true) (r:=0) (aLA o i x ho hr) rfl rfl rfl ?_
     rintro x' _ ⟨rfl,hy⟩
     repeat' (first|(simp only [hi0,Int.toNat_natCast,hgn,hgs,h3,aV,dV,eY,dR,dO,kK,kJ,kG,eS,a7,hvd,↓wA,↓wC,wB,aY,aW,reduceEqDiff,reduceAdd,reduceSub,reduceIte,reduceCtorEq,Nat.reduceBEq,reduceLT])|((first|apply aO|apply aQ|apply aK)<;>intro h<;>try simp only [h]))
     cases hB:cY o x with
     | true=>exact nC (by rw [hO,if_pos ⟨hv,hB⟩]) (hy hB)
     | false=>exact kH (by rw [hO,if_neg (fun h=>by rw [hB] at h; cases h.2)])
    ·have hvd:decide (v=0)=false:=decide_eq_false hv
     repeat' (first|(simp only [hi0,Int.toNat_natCast,hgn,hgs,h3,aV,dV,eY,dR,dO,kK,kJ,kG,eS,a7,hvd,↓wA,↓wC,wB,aY,aW,reduceEqDiff,reduceAdd,reduceSub,reduceIte,reduceCtorEq,Nat.reduceBEq,reduceLT])|((first|apply aO|apply aQ|apply aK)<;>intro h<;>try simp only [h]))
     all_goals exact kH (by rw [hO,if_neg (fun h=>hv h.1)])
   | false =>
    have h6':=of_decide_eq_false h6
    have hO:u5 o i x k v=none:=by unfold u5; rw [if_neg h3',if_neg h5',if_neg h6']
    refine mP (ps:=[[1,0]]) (fn:=f73) (by exact func73) c73 r73 (n:=65) (by rfl) (rv:=[.tmp 6]) (by rfl) (by decide) (by simp) ?_
    unfold m73
    try simp only [wQ]
    simp only [dP,eR]
    simp only [Off.o,cG,lG]
    repeat' (first|(simp only [aV,↓wA,↓wC,wB,aY,aW,reduceEqDiff,reduceAdd,reduceSub,reduceIte,reduceCtorEq,Nat.reduceBEq,reduceLT])|((first|apply aO|apply aQ|apply aK)<;>intro h<;>try simp only [h]))
    refine dQ _ (eA 0 none [1] (es:=4) (xs:=dl Cs.o o.cs) rfl rfl) fun v1=>?_
    simp only [cX,↓wA,↓wC,wB,aY,aW,reduceEqDiff,reduceAdd,reduceSub,reduceIte,reduceCtorEq,Nat.reduceBEq,reduceLT]
    repeat' (first|(simp only [hi0,Int.toNat_natCast,hgn,hgs,h3,aV,dV,eY,dR,dO,kK,kJ,kG,eS,a7,h5,h6,↓wA,↓wC,wB,aY,aW,reduceEqDiff,reduceAdd,reduceSub,reduceIte,reduceCtorEq,Nat.reduceBEq,reduceLT])|(with_reducible refine bA ?_ ?_; focus (simp only [cV]; omega))|((first|apply aO|apply aQ|apply aK)<;>intro h<;>try simp only [h]))
    all_goals exact kH hO
end Go.Pe.Tryz
set_option maxRecDepth 100000
set_option maxHeartbeats 4000000
set_option linter.all false
namespace Go.Pe.Tryz
open Nat (reduceEqDiff reduceAdd reduceSub reduceLT)
open Go.Proofs.Tryz
theorem yV:∀ (xs:List D) (i:Nat) (y:D),(iM xs).setN i y=iM (xs.set i y)
 | [],i,y=>by cases i<;>rfl
 | x :: xs,0,y=>rfl
 | x :: xs,i + 1,y=>by
  have:=yV xs i y
  simp only [iM,D.setN,List.set_cons_succ,this]
theorem cC {xs:D}:(D.st xs).isStB=true:=rfl
theorem aIq (o:Off) (id a v:Int) (ho:cM o=true) (hv0:0<=v) (hv1:v<=20000):wP prog 39 true o.o [lG 2 id a v] (aJd (mkO o 2 id a v)):=by
 have hp:=dG ho
 have ho0:=jA ho
 have hA:=vW o id ho0
 have hM:mkO o 2 id a v=if 0<=fT o.cs id then none else some { o with cs:=gM ⟨id,a,o.day + v,[]⟩ o.cs }:=if_pos rfl
 have h2:decide ((2:Int)=2)=true:=rfl
 cases hf:decide (0<=fT o.cs id) with
 | true =>
  have hf':=of_decide_eq_true hf
  rw [if_pos hf'] at hM
  refine i6 (fn:=f39) (by exact func39) c39 r39 (n:=109) (by rfl) (rv:=[.tmp 4]) (by rfl) (by decide) (by simp) ?_
  unfold m39
  try simp only [wQ]
  simp only [Off.o,cG,lG]
  repeat' (first|(simp only [aV,cC,hf,↓wA,↓wC,wB,aY,aW,reduceEqDiff,reduceAdd,reduceSub,reduceIte,reduceCtorEq,Nat.reduceBEq,reduceLT])|(refine a6 hA (congrArg (fun d:D=>some [d,.int .i64 id]) (Off.o_unown o)) rfl ?_)|((first|apply aO|apply aQ|apply aK)<;>intro h<;>try simp only [h]))
  all_goals exact kH hM
 | false =>
  have hf':=of_decide_eq_false hf
  rw [if_neg hf'] at hM
  refine mP (ps:=[[1,1,0,0,1,0,1,1,1,1,0],[1,1,0,0,1,0,1,1,1,1,0],[1,1,0,0,1,0,1,1,1,1,0],[1,1,0,0,1,0,1,0]]) (fn:=f39) (by exact func39) c39 r39 (n:=109) (by rfl) (rv:=[.tmp 4]) (by rfl) (by decide) (by simp) ?_
  unfold m39
  try simp only [wQ]
  simp only [dP,eR]
  simp only [Off.o,cG,lG]
  repeat' (first|(simp only [aV,cC,hf,↓wA,↓wC,wB,aY,aW,reduceEqDiff,reduceAdd,reduceSub,reduceIte,reduceCtorEq,Nat.reduceBEq,reduceLT])|(refine a6 hA (congrArg (fun d:D=>some [d,.int .i64 id]) (Off.o_unown o)) rfl ?_)|((first|apply aO|apply aQ|apply aK)<;>intro h<;>try simp only [h]))
  refine dQ _ (eA 0 none [1] (es:=4) (xs:=dl Cs.o o.cs) rfl rfl) fun v1=>?_
  simp only [cX,↓wA,↓wC,wB,aY,aW,reduceEqDiff,reduceAdd,reduceSub,reduceIte,reduceCtorEq,Nat.reduceBEq,reduceLT]
  repeat' (first|(simp only [aV,↓wA,↓wC,wB,aY,aW,reduceEqDiff,reduceAdd,reduceSub,reduceIte,reduceCtorEq,Nat.reduceBEq,reduceLT])|((first|apply aO|apply aQ|apply aK)<;>intro h<;>try simp only [h]))
  refine dZ (fun j:Nat=>⟨[(0,.ptr 0 0 []),(3,.ptr 1 0 []),(6,.d (.int .i64 j))],[.box (cG o (.lnk 3 v1) (.sl true 1 (dl D.str o.led))),.box (lG 2 id a v),.val (.sl true 4 (dl Cs.o o.cs)),.tag 2 v1]⟩) (fun j=>j<=o.cs.length/\∀ m x,m < j->o.cs[m]?=some x->x.i < id) (fun j=>o.cs.length - j) 0 (bF _ rfl ⟨⟨rfl,rfl⟩,⟨rfl,rfl⟩,⟨rfl,rfl⟩,trivial⟩) ⟨by omega,fun m x hm=>by omega⟩ ?_
  rintro j ⟨hj1,hj2⟩
  simp only [cG,lG]
  have hcm:∀ x:Cs,Cs.o x=x.p (.sl true 1 (dl iD x.h)):=fun _=>rfl
  have hj0:(0:Int)<=(j:Int):=by omega
  by_cases hlt:j < o.cs.length
  ·obtain ⟨x,hr⟩:=cK hlt
   have hd:decide ((j:Int) < (o.cs.length:Int))=true:=decide_eq_true (by omega)
   cases hx:decide (x.i < id) with
   | true =>
    repeat' (first|(simp only [aV,a7,bW,hd,hx,hr,hj0,hcm,Int.toNat_natCast,Option.map_some,r6,rZ,↓wA,↓wC,wB,aY,aW,reduceEqDiff,reduceAdd,reduceSub,reduceIte,reduceCtorEq,Nat.reduceBEq,reduceLT])|(with_reducible refine bA ?_ ?_; focus (simp only [cV]; omega))|((first|apply aO|apply aQ|apply aK)<;>intro h<;>try simp only [h]))
    refine ⟨j + 1,(bF _ rfl ⟨⟨rfl,rfl⟩,⟨rfl,rfl⟩,⟨rfl,rfl⟩,trivial⟩),⟨by omega,fun m y hm hy=>?_⟩,by omega⟩
    by_cases e:m=j
    ·subst e
     rw [hr] at hy
     injection hy with hy
     rw [<- hy]; exact of_decide_eq_true hx
    ·exact hj2 m y (by omega) hy
   | false =>
    have hpl:oI id o.cs=j:=oZ o.cs j hj1 hj2 (fun y hy=>by rw [hr] at hy; injection hy with hy; rw [<- hy]; exact of_decide_eq_false hx)
    repeat' (first|(simp only [aV,a7,bW,hd,hx,hr,hj0,hcm,Int.toNat_natCast,Option.map_some,r6,rZ,↓wA,↓wC,wB,aY,aW,reduceEqDiff,reduceAdd,reduceSub,reduceIte,reduceCtorEq,Nat.reduceBEq,reduceLT])|(refine cT ?_)|(with_reducible refine bA ?_ ?_; focus (simp only [cV]; omega))|((first|apply aO|apply aQ|apply aK)<;>intro h<;>try simp only [h]))
    have hpe:gM ⟨id,a,o.day + v,[]⟩ o.cs=o.cs.take j ++ ⟨id,a,o.day + v,[]⟩ :: o.cs.drop j:=by unfold gM; rw [hpl]
    refine mQ _ (eA 5 (some 0) [3] (es:=1) (xs:=.nil) rfl rfl) fun v2=>?_
    simp only [cX,D.nth,Option.getD_some,j6,D.setN,↓wA,↓wC,wB,aY,aW,reduceEqDiff,reduceAdd,reduceSub,reduceIte,reduceCtorEq,Nat.reduceBEq,reduceLT]
    refine dW 5 ?_
    simp only [lA,jX,iZ,D.unown,↓wA,↓wC,wB,aY,aW,reduceEqDiff,reduceAdd,reduceSub,reduceIte,reduceCtorEq,Nat.reduceBEq,reduceLT]
    have hI:=zL (o.cs.map Cs.o) (Cs.p ⟨id,a,o.day + v,[]⟩ (.lnk 7 v2)) (fun d hd=>by obtain ⟨y,_,rfl⟩:=List.mem_map.1 hd; rfl) rfl j (by simpa using hj1) (by simp; omega)
    refine dF (bx:=false) (r:=2) hI rfl rfl rfl ?_
    rintro _ _ ⟨⟨u,rfl⟩,rfl⟩
    have hnth:(iM ((o.cs.map Cs.o).take j ++ Cs.p ⟨id,a,o.day + v,[]⟩ (.lnk 7 v2) :: (o.cs.map Cs.o).drop j)).nth j=some (Cs.p ⟨id,a,o.day + v,[]⟩ (.lnk 7 v2)):=by
     rw [nQ,List.getElem?_append_right (by simp; omega)]
     simp [Nat.min_eq_left hj1]
    have hset:(iM ((o.cs.map Cs.o).take j ++ Cs.p ⟨id,a,o.day + v,[]⟩ (.lnk 7 v2) :: (o.cs.map Cs.o).drop j)).setN j (Cs.p ⟨id,a,o.day + v,[]⟩ (.sl true 1 .nil))=dl Cs.o (gM ⟨id,a,o.day + v,[]⟩ o.cs):=by
     rw [yV,List.set_append_right _ _ (by simp; omega),hpe]
     simp [Nat.min_eq_left hj1,dl]
     rfl
    generalize iM ((o.cs.map Cs.o).take j ++ Cs.p ⟨id,a,o.day + v,[]⟩ (.lnk 7 v2) :: (o.cs.map Cs.o).drop j)=NL at hnth hset
    repeat' (first|(simp only [aV,↓wA,↓wC,wB,aY,aW,reduceEqDiff,reduceAdd,reduceSub,reduceIte,reduceCtorEq,Nat.reduceBEq,reduceLT])|((first|apply aO|apply aQ|apply aK)<;>intro h<;>try simp only [h]))
    refine dQ _ (eA 0 none [1] (es:=4) (xs:=NL) rfl rfl) fun v3=>?_
    simp only [cX,↓wA,↓wC,wB,aY,aW,reduceEqDiff,reduceAdd,reduceSub,reduceIte,reduceCtorEq,Nat.reduceBEq,reduceLT]
    refine bR (jQ 9 7 6 (some j) [3] rfl (by simp only [iY,hnth,Option.bind_some,dR]) rfl rfl (by decide) rfl) ?_
    simp only [cX,hnth,Option.getD_some,dO,hset,↓wA,↓wC,wB,aY,aW,reduceEqDiff,reduceAdd,reduceSub,reduceIte,reduceCtorEq,Nat.reduceBEq,reduceLT]
    refine bR (jQ 0 10 9 none [1] rfl rfl rfl rfl (by decide) rfl) ?_
    simp only [cX,↓wA,↓wC,wB,aY,aW,reduceEqDiff,reduceAdd,reduceSub,reduceIte,reduceCtorEq,Nat.reduceBEq,reduceLT]
    repeat' (first|(simp only [aV,↓wA,↓wC,wB,aY,aW,reduceEqDiff,reduceAdd,reduceSub,reduceIte,reduceCtorEq,Nat.reduceBEq,reduceLT])|((first|apply aO|apply aQ|apply aK)<;>intro h<;>try simp only [h]))
    all_goals exact nC hM rfl
  ·have e:j=o.cs.length:=by omega
   have hd:decide ((j:Int) < (o.cs.length:Int))=false:=decide_eq_false (by omega)
   have hpl:oI id o.cs=j:=oZ o.cs j hj1 hj2 (fun y hy=>by have:=bC hy; omega)
   repeat' (first|(simp only [aV,a7,bW,hd,hj0,hcm,Int.toNat_natCast,Option.map_some,r6,rZ,↓wA,↓wC,wB,aY,aW,reduceEqDiff,reduceAdd,reduceSub,reduceIte,reduceCtorEq,Nat.reduceBEq,reduceLT])|(refine cT ?_)|(with_reducible refine bA ?_ ?_; focus (simp only [cV]; omega))|((first|apply aO|apply aQ|apply aK)<;>intro h<;>try simp only [h]))
   have hpe:gM ⟨id,a,o.day + v,[]⟩ o.cs=o.cs.take j ++ ⟨id,a,o.day + v,[]⟩ :: o.cs.drop j:=by unfold gM; rw [hpl]
   refine mQ _ (eA 5 (some 0) [3] (es:=1) (xs:=.nil) rfl rfl) fun v2=>?_
   simp only [cX,D.nth,Option.getD_some,j6,D.setN,↓wA,↓wC,wB,aY,aW,reduceEqDiff,reduceAdd,reduceSub,reduceIte,reduceCtorEq,Nat.reduceBEq,reduceLT]
   refine dW 5 ?_
   simp only [lA,jX,iZ,D.unown,↓wA,↓wC,wB,aY,aW,reduceEqDiff,reduceAdd,reduceSub,reduceIte,reduceCtorEq,Nat.reduceBEq,reduceLT]
   have hI:=zL (o.cs.map Cs.o) (Cs.p ⟨id,a,o.day + v,[]⟩ (.lnk 7 v2)) (fun d hd=>by obtain ⟨y,_,rfl⟩:=List.mem_map.1 hd; rfl) rfl j (by simpa using hj1) (by simp; omega)
   refine dF (bx:=false) (r:=2) hI rfl rfl rfl ?_
   rintro _ _ ⟨⟨u,rfl⟩,rfl⟩
   have hnth:(iM ((o.cs.map Cs.o).take j ++ Cs.p ⟨id,a,o.day + v,[]⟩ (.lnk 7 v2) :: (o.cs.map Cs.o).drop j)).nth j=some (Cs.p ⟨id,a,o.day + v,[]⟩ (.lnk 7 v2)):=by
    rw [nQ,List.getElem?_append_right (by simp; omega)]
    simp [Nat.min_eq_left hj1]
   have hset:(iM ((o.cs.map Cs.o).take j ++ Cs.p ⟨id,a,o.day + v,[]⟩ (.lnk 7 v2) :: (o.cs.map Cs.o).drop j)).setN j (Cs.p ⟨id,a,o.day + v,[]⟩ (.sl true 1 .nil))=dl Cs.o (gM ⟨id,a,o.day + v,[]⟩ o.cs):=by
    rw [yV,List.set_append_right _ _ (by simp; omega),hpe]
    simp [Nat.min_eq_left hj1,dl]
    rfl
   generalize iM ((o.cs.map Cs.o).take j ++ Cs.p ⟨id,a,o.day + v,[]⟩ (.lnk 7 v2) :: (o.cs.map Cs.o).drop j)=NL at hnth hset
   repeat' (first|(simp only [aV,↓wA,↓wC,wB,aY,aW,reduceEqDiff,reduceAdd,reduceSub,reduceIte,reduceCtorEq,Nat.reduceBEq,reduceLT])|((first|apply aO|apply aQ|apply aK)<;>intro h<;>try simp only [h]))
   refine dQ _ (eA 0 none [1] (es:=4) (xs:=NL) rfl rfl) fun v3=>?_
   simp only [cX,↓wA,↓wC,wB,aY,aW,reduceEqDiff,reduceAdd,reduceSub,reduceIte,reduceCtorEq,Nat.reduceBEq,reduceLT]
   refine bR (jQ 9 7 6 (some j) [3] rfl (by simp only [iY,hnth,Option.bind_some,dR]) rfl rfl (by decide) rfl) ?_
   simp only [cX,hnth,Option.getD_some,dO,hset,↓wA,↓wC,wB,aY,aW,reduceEqDiff,reduceAdd,reduceSub,reduceIte,reduceCtorEq,Nat.reduceBEq,reduceLT]
   refine bR (jQ 0 10 9 none [1] rfl rfl rfl rfl (by decide) rfl) ?_
   simp only [cX,↓wA,↓wC,wB,aY,aW,reduceEqDiff,reduceAdd,reduceSub,reduceIte,reduceCtorEq,Nat.reduceBEq,reduceLT]
   repeat' (first|(simp only [aV,↓wA,↓wC,wB,aY,aW,reduceEqDiff,reduceAdd,reduceSub,reduceIte,reduceCtorEq,Nat.reduceBEq,reduceLT])|((first|apply aO|apply aQ|apply aK)<;>intro h<;>try simp only [h]))
   all_goals exact nC hM rfl
theorem aAI (o:Off) (k id a v:Int) (ho:cM o=true) (hv0:0<=v) (hv1:v<=20000):wP prog 39 true o.o [lG k id a v] (aJd (mkO o k id a v)):=by
 have hp:=dG ho
 have ho0:=jA ho
 have hA:=vW o id ho0
 cases k2:decide (k=2) with
 | true =>
  have:=of_decide_eq_true k2
  subst this
  exact aIq o id a v ho hv0 hv1
 | false =>
  have k2':=of_decide_eq_false k2
  cases ha:decide (a=0) with
  | false =>
   have ha':=of_decide_eq_false ha
   have hM:mkO o k id a v=none:=by unfold mkO; rw [if_neg k2',if_pos ha']
   refine i6 (fn:=f39) (by exact func39) c39 r39 (n:=109) (by rfl) (rv:=[.tmp 4]) (by rfl) (by decide) (by simp) ?_
   unfold m39
   try simp only [wQ]
   simp only [Off.o,cG,lG]
   repeat' (first|(simp only [aV,cC,k2,ha,↓wA,↓wC,wB,aY,aW,reduceEqDiff,reduceAdd,reduceSub,reduceIte,reduceCtorEq,Nat.reduceBEq,reduceLT])|(refine a6 hA (congrArg (fun d:D=>some [d,.int .i64 id]) (Off.o_unown o)) rfl ?_)|((first|apply aO|apply aQ|apply aK)<;>intro h<;>try simp only [h]))
   all_goals exact kH hM
  | true =>
   have ha':=of_decide_eq_true ha
   have hM0:mkO o k id a v=mkO o k id a v:=rfl
   conv at hM0=>rhs; unfold mkO
   rw [if_neg k2',if_neg (show ¬ a≠0 from fun h=>h ha')] at hM0
   cases k1:decide (k=1) with
   | true =>
    have k1':=of_decide_eq_true k1
    rw [if_pos k1'] at hM0
    refine i6 (fn:=f39) (by exact func39) c39 r39 (n:=109) (by rfl) (rv:=[.tmp 4]) (by rfl) (by decide) (by simp) ?_
    unfold m39
    try simp only [wQ]
    simp only [Off.o,cG,lG]
    cases hi:decide (id=0) with
    | true =>
     have hi':=of_decide_eq_true hi
     repeat' (first|(simp only [aV,cC,k2,ha,k1,hi,↓wA,↓wC,wB,aY,aW,reduceEqDiff,reduceAdd,reduceSub,reduceIte,reduceCtorEq,Nat.reduceBEq,reduceLT])|(refine cT ?_)|(refine a6 hA (congrArg (fun d:D=>some [d,.int .i64 id]) (Off.o_unown o)) rfl ?_)|(with_reducible refine bA ?_ ?_; focus (simp only [cV]; omega))|((first|apply aO|apply aQ|apply aK)<;>intro h<;>try simp only [h]))
     by_cases hv:1<=v
     ·rw [decide_eq_true hv]
      exact nC (o':={ o with day:=o.day + v }) (by rw [hM0,if_pos ⟨hi',hv⟩]) rfl
     ·rw [decide_eq_false hv]
      exact kH (by rw [hM0,if_neg (fun h=>hv h.2)])
    | false =>
     have hi':=of_decide_eq_false hi
     repeat' (first|(simp only [aV,cC,k2,ha,k1,hi,↓wA,↓wC,wB,aY,aW,reduceEqDiff,reduceAdd,reduceSub,reduceIte,reduceCtorEq,Nat.reduceBEq,reduceLT])|(refine cT ?_)|(refine a6 hA (congrArg (fun d:D=>some [d,.int .i64 id]) (Off.o_unown o)) rfl ?_)|(with_reducible refine bA ?_ ?_; focus (simp only [cV]; omega))|((first|apply aO|apply aQ|apply aK)<;>intro h<;>try simp only [h]))
     all_goals exact kH (by rw [hM0,if_neg (fun h=>hi' h.1)])
   | false =>
    have k1':=of_decide_eq_false k1
    rw [if_neg k1'] at hM0
    cases k4:decide (k=4) with
    | true =>
     have k4':=of_decide_eq_true k4
     rw [if_pos k4'] at hM0
     have hnd:∀ x∈o.cs,x.h.Nodup:=fun x hx=>aDu (aFC (dX (hp.2.2.2.2.2.2.2.2.2 x hx)).2.2.2.2.2.2.2.2)
     refine i6 (fn:=f39) (by exact func39) c39 r39 (n:=109) (by rfl) (rv:=[.tmp 4]) (by rfl) (by decide) (by simp) ?_
     unfold m39
     try simp only [wQ]
     simp only [Off.o,cG,lG]
     cases hi:decide (id=0) with
     | true =>
      have hi':=of_decide_eq_true hi
      repeat' (first|(simp only [aV,cC,k2,ha,k1,k4,hi,↓wA,↓wC,wB,aY,aW,reduceEqDiff,reduceAdd,reduceSub,reduceIte,reduceCtorEq,Nat.reduceBEq,reduceLT])|(refine a6 hA (congrArg (fun d:D=>some [d,.int .i64 id]) (Off.o_unown o)) rfl ?_)|((first|apply aO|apply aQ|apply aK)<;>intro h<;>try simp only [h]))
      refine rX (bx:=true) (r:=0) (aE7 o v ho0 hnd) rfl rfl rfl ?_
      repeat' (first|(simp only [aV,hi,↓wA,↓wC,wB,aY,aW,reduceEqDiff,reduceAdd,reduceSub,reduceIte,reduceCtorEq,Nat.reduceBEq,reduceLT])|((first|apply aO|apply aQ|apply aK)<;>intro h<;>try simp only [h]))
      cases hh:oK v o.cs with
      | true=>exact nC (o':={ o with cs:=o.cs.map (l9 v) }) (by rw [hM0,if_pos ⟨hi',hh⟩]) rfl
      | false=>exact kH (by rw [hM0,if_neg (fun h=>by rw [hh] at h; cases h.2)])
     | false =>
      have hi':=of_decide_eq_false hi
      repeat' (first|(simp only [aV,cC,k2,ha,k1,k4,hi,↓wA,↓wC,wB,aY,aW,reduceEqDiff,reduceAdd,reduceSub,reduceIte,reduceCtorEq,Nat.reduceBEq,reduceLT])|(refine a6 hA (congrArg (fun d:D=>some [d,.int .i64 id]) (Off.o_unown o)) rfl ?_)|((first|apply aO|apply aQ|apply aK)<;>intro h<;>try simp only [h]))
      all_goals exact kH (by rw [hM0,if_neg (fun h=>hi' h.1)])
    | false =>
     have k4':=of_decide_eq_false k4
     rw [if_neg k4'] at hM0
     refine i6 (fn:=f39) (by exact func39) c39 r39 (n:=109) (by rfl) (rv:=[.tmp 4]) (by rfl) (by decide) (by simp) ?_
     unfold m39
     try simp only [wQ]
     simp only [Off.o,cG,lG]
     cases hf:decide (0<=fT o.cs id) with
     | false =>
      have hf':=of_decide_eq_false hf
      rw [if_neg hf'] at hM0
      repeat' (first|(simp only [aV,cC,k2,ha,k1,k4,hf,↓wA,↓wC,wB,aY,aW,reduceEqDiff,reduceAdd,reduceSub,reduceIte,reduceCtorEq,Nat.reduceBEq,reduceLT])|(refine a6 hA (congrArg (fun d:D=>some [d,.int .i64 id]) (Off.o_unown o)) rfl ?_)|((first|apply aO|apply aQ|apply aK)<;>intro h<;>try simp only [h]))
      all_goals exact kH hM0
     | true =>
      have hf':=of_decide_eq_true hf
      rw [if_pos hf'] at hM0
      rcases kT o.cs id with ⟨_,hn⟩|⟨i,x,hi,hr,_⟩
      ·exact absurd hf' (of_decide_eq_false hn)
      ·rw [hi,Int.toNat_natCast,hr] at hM0
       rw [hi] at hA hf
       have hS:=aDS o i x k id a v ho hr hv0 hv1
       repeat' (first|(simp only [aV,cC,k2,ha,k1,k4,hf,↓wA,↓wC,wB,aY,aW,reduceEqDiff,reduceAdd,reduceSub,reduceIte,reduceCtorEq,Nat.reduceBEq,reduceLT])|(refine a6 hA (congrArg (fun d:D=>some [d,.int .i64 id]) (Off.o_unown o)) rfl ?_)|((first|apply aO|apply aQ|apply aK)<;>intro h<;>try simp only [h]))
       refine dF (bx:=true) (r:=0) hS rfl rfl rfl ?_
       rintro x' _ ⟨rfl,hx'⟩
       repeat' (first|(simp only [aV,hf,↓wA,↓wC,wB,aY,aW,reduceEqDiff,reduceAdd,reduceSub,reduceIte,reduceCtorEq,Nat.reduceBEq,reduceLT])|((first|apply aO|apply aQ|apply aK)<;>intro h<;>try simp only [h]))
       have hM1:mkO o k id a v=u5 o i x k v:=hM0
       all_goals exact ⟨by rw [hM1],fun o' h=>hx' o' (by rw [<- hM1]; exact h)⟩
end Go.Pe.Tryz
set_option maxRecDepth 100000
set_option maxHeartbeats 4000000
set_option linter.all false
namespace Go.Pe.Tryz
open Nat (reduceEqDiff reduceAdd reduceSub reduceLT)
open Go.Proofs.Tryz
def aEk:Off:=⟨0,[],0,0,[]⟩
theorem aCX (v:Int) (h:List Int):(jS v h).length=h.length + 1:=by simp [jS]; omega
theorem xN {xs:List Cs} {i:Nat} {y:Cs} (h:rS xs) (hy:y.ok0):rS (xs.set i y):=⟨by simpa using h.1,fun z hz=>by
 rcases List.mem_or_eq_of_mem_set hz with hz|hz
 ·exact h.2 z hz
 ·rw [hz]; exact hy⟩
theorem aLs {o o':Off} {k id a v:Int} (ho:cM o=true) (hx:∀ (i:Nat) (x:Cs),o.cs[i]?=some x->d7 x=true) (h:mkO o k id a v=some o'):o'.ok0:=by
 have hp:=dG ho
 have h0:=jA ho
 unfold mkO at h
 by_cases k2:k=2
 ·rw [if_pos k2] at h
  split at h
  ·cases h
  ·injection h with h
   subst h
   refine ⟨⟨?_,fun x hx=>?_⟩,h0.2⟩
   ·simp [gM]; omega
   ·rcases List.mem_append.1 hx with hx|hx
    ·exact h0.1.2 x (List.mem_of_mem_take hx)
    ·rcases List.mem_cons.1 hx with rfl|hx
     ·simp [Cs.ok0]
     ·exact h0.1.2 x (List.mem_of_mem_drop hx)
 ·rw [if_neg k2] at h
  split at h
  ·cases h
  split at h
  ·split at h
   ·injection h with h; subst h; exact h0
   ·cases h
  split at h
  ·split at h
   ·injection h with h
    subst h
    refine ⟨⟨by simpa using h0.1.1,fun x hx=>?_⟩,h0.2⟩
    obtain ⟨y,hy,rfl⟩:=List.mem_map.1 hx
    have h1:=h0.1.2 y hy
    have h2:=List.length_filter_le (fun n=>!decide (n=v)) y.h
    exact Nat.le_trans h2 h1
   ·cases h
  split at h
  ·split at h
   ·rename_i x hr
    have hxc:=dX (hx _ x hr)
    split at h
    ·split at h
     ·cases h
     ·injection h with h
      subst h
      refine ⟨xN h0.1 ?_,h0.2⟩
      show (jS v x.h).length<=1048576
      rw [aCX]; omega
    ·split at h
     ·split at h
      ·injection h with h
       subst h
       refine ⟨xN h0.1 ?_,h0.2⟩
       show x.h.length<=1048576
       omega
      ·cases h
     ·split at h
      ·split at h
       ·injection h with h
        subst h
        have he:∀ i,rS (o.cs.eraseIdx i):=fun i=>⟨by have:=List.length_eraseIdx_le o.cs i; omega,fun y hy=>h0.1.2 y (List.mem_of_mem_eraseIdx hy)⟩
        unfold jM
        split
        ·exact ⟨he _,h0.2⟩
        ·split
         ·exact ⟨he _,h0.2⟩
         ·refine ⟨he _,by simp; omega,fun s hs=>?_⟩
          rcases List.mem_append.1 hs with hs|hs
          ·exact h0.2.2 s hs
          ·rw [List.mem_singleton.1 hs]
           have h1:=fA x.i (by simp only [cV]; omega)
           have h2:=fA o.day (by simp only [cV]; omega)
           simp [kM]; omega
       ·cases h
      ·cases h
   ·cases h
  ·cases h
def uO:Option Off->List D
 | some o'=>[o'.o,.bool true]
 | none=>[aEk.o,.bool false]
theorem aDr (o:Off) (k id a v:Int) (ho:o.ok0):Fn prog 7 [o.s,lG k id a v] (fun rs=>rs=uO (gW o k id a v)):=by
 have hV:=jF o ho
 have hW:=eL v 0 20000
 cases hv:cM o with
 | false =>
  have hR:gW o k id a v=none:=by unfold gW; rw [hv]; rfl
  rw [hR]
  rw [hv] at hV
  refine bV (fn:=f7) (by exact func7) c7 r7 (n:=29) (by rfl) (rv:=[.cell 4 27,.tmp 5]) (by rfl) (by simp) ?_
  unfold m7
  try simp only [wQ]
  simp only [lG]
  repeat' (first|(simp only [Off.s_noOwn,Off.s_isV,↓b9,aV,↓wA,↓wC,wB,aY,aW,reduceEqDiff,reduceAdd,reduceSub,reduceIte,reduceCtorEq,Nat.reduceBEq,reduceLT,bU])|(refine aZ hV (by simp [cA,cW,Off.s_unown]) rfl ?_)|((first|apply aO|apply aQ|apply aK)<;>intro h<;>try simp only [h]))
  all_goals rfl
 | true =>
  rw [hv] at hV
  cases hw:bX v 0 20000 with
  | false =>
   have hR:gW o k id a v=none:=by unfold gW; rw [hv,hw]; rfl
   rw [hR]
   rw [hw] at hW
   refine bV (fn:=f7) (by exact func7) c7 r7 (n:=29) (by rfl) (rv:=[.cell 4 27,.tmp 5]) (by rfl) (by simp) ?_
   unfold m7
   try simp only [wQ]
   simp only [lG]
   repeat' (first|(simp only [Off.s_noOwn,Off.s_isV,↓b9,aV,↓wA,↓wC,wB,aY,aW,reduceEqDiff,reduceAdd,reduceSub,reduceIte,reduceCtorEq,Nat.reduceBEq,reduceLT,bU])|(refine aZ (hW) rfl rfl ?_)|(refine a6 (hW) rfl rfl ?_)|(refine aZ hV (by simp [cA,cW,Off.s_unown]) rfl ?_)|((first|apply aO|apply aQ|apply aK)<;>intro h<;>try simp only [h]))
   all_goals rfl
  | true =>
   have hwi:=jH.1 hw
   rw [hw] at hW
   have hR:gW o k id a v=(mkO o k id a v).filter cM:=by unfold gW; rw [hv,hw]; rfl
   have hC:=aAL o ho
   have hS:=aAI o k id a v hv hwi.1 hwi.2
   have hno:∀ q:Off,q.o.noOwn=false:=fun q=>by simp [Off.o,cG,D.noOwn]
   have hst:∀ q:Off,q.o.isStB=true:=fun q=>rfl
   refine bV (fn:=f7) (by exact func7) c7 r7 (n:=29) (by rfl) (rv:=[.cell 4 27,.tmp 5]) (by rfl) (by simp) ?_
   unfold m7
   try simp only [wQ]
   simp only [lG]
   repeat' (first|(simp only [Off.s_noOwn,Off.s_isV,Off.o_isV,Off.o_size,Off.s_size,hno,↓b9,aV,↓wA,↓wC,wB,aY,aW,reduceEqDiff,reduceAdd,reduceSub,reduceIte,reduceCtorEq,Nat.reduceBEq,reduceLT,bU])|(refine aZ (hW) rfl rfl ?_)|(refine a6 (hW) rfl rfl ?_)|(refine aZ hV (by simp [cA,cW,Off.s_unown]) rfl ?_)|(refine aZ hC (by simp [cA,cW,Off.s_unown]) rfl ?_)|((first|apply aO|apply aQ|apply aK)<;>intro h<;>try simp only [h]))
   refine dF (bx:=true) (r:=4) hS rfl rfl rfl ?_
   rintro x' _ ⟨rfl,hx'⟩
   rw [hR]
   cases hM:mkO o k id a v with
   | none =>
    repeat' (first|(simp only [cC,aV,Option.isSome_none,↓wA,↓wC,wB,aY,aW,reduceEqDiff,reduceAdd,reduceSub,reduceIte,reduceCtorEq,Nat.reduceBEq,reduceLT,bU])|((first|apply aO|apply aQ|apply aK)<;>intro h<;>try simp only [h]))
    all_goals rfl
   | some o' =>
    obtain rfl:=hx' o' hM
    have hV':=jF o' (aLs hv (fun i x hr=>(dG hv).2.2.2.2.2.2.2.2.2 x (List.mem_of_getElem? hr)) hM)
    cases hv':cM o' with
    | true =>
     rw [hv'] at hV'
     have hr:uO (Option.filter cM (some o'))=[o'.o,.bool true]:=by simp [Option.filter,hv',uO]
     rw [hr]
     repeat' (first|(simp only [cC,hst,aV,Option.isSome_some,Off.o_isV,Off.o_size,hno,↓b9,↓wA,↓wC,wB,aY,aW,reduceEqDiff,reduceAdd,reduceSub,reduceIte,reduceCtorEq,Nat.reduceBEq,reduceLT,bU])|(refine aZ hV' (congrArg (fun d:D=>some [d]) (Off.o_unown o')) rfl ?_)|((first|apply aO|apply aQ|apply aK)<;>intro h<;>try simp only [h]))
     exact ⟨_,rfl,rfl,rfl,rfl,rfl⟩
    | false =>
     rw [hv'] at hV'
     have hr:uO (Option.filter cM (some o'))=[aEk.o,.bool false]:=by simp [Option.filter,hv',uO]
     rw [hr]
     repeat' (first|(simp only [cC,hst,aV,Option.isSome_some,Off.o_isV,Off.o_size,hno,↓b9,↓wA,↓wC,wB,aY,aW,reduceEqDiff,reduceAdd,reduceSub,reduceIte,reduceCtorEq,Nat.reduceBEq,reduceLT,bU])|(refine aZ hV' (congrArg (fun d:D=>some [d]) (Off.o_unown o')) rfl ?_)|((first|apply aO|apply aQ|apply aK)<;>intro h<;>try simp only [h]))
     all_goals rfl
end Go.Pe.Tryz
set_option maxRecDepth 100000
set_option maxHeartbeats 4000000
set_option linter.all false
namespace Go.Pe.Tryz
open Nat (reduceEqDiff reduceAdd reduceSub reduceLT)
open Go.Proofs.Tryz
structure Stp where
 k:Int
 i:Int
 a:Int
 v:Int
def Stp.d (s:Stp):D:=lG s.k s.i s.a s.v
theorem aIe {o q:Off} {k id a v:Int} (h:gW o k id a v=some q):cM q=true:=by
 unfold gW at h
 split at h
 ·cases hm:mkO o k id a v with
  | none=>rw [hm] at h; cases h
  | some o' =>
   rw [hm] at h
   simp only [Option.filter] at h
   split at h
   ·rename_i hv; injection h with h; rw [<- h]; exact hv
   ·cases h
 ·cases h
end Go.Pe.Tryz
set_option maxRecDepth 100000
set_option maxHeartbeats 4000000
set_option linter.all false
namespace Go.Pe.Tryz
open Nat (reduceEqDiff reduceAdd reduceSub reduceLT)
open Go.Proofs.Tryz
theorem aOw {P:PG} {un lv:List Nat} {p:MP} {s:St} {Q:Exit->St->Prop} (J:St->Prop) (h:d4 P un p [] s fun s'=>J ⟨kS lv s'.e,s'.o⟩) (h2:∀ s',J s'->∃ s1,eN s' s1/\Q .normal s1):dA P (.any un lv p) s Q:=⟨J,h,h2⟩
def zO:D:=.st (.cons (.int .i64 0) (.cons (.sl true 4 .nil) (.cons (.int .i64 0) (.cons (.int .i64 0) (.cons (.sl true 1 .nil) .nil)))))
def Off.w (o:Off):D:=cG o (.sl true 4 (dl Cs.s o.cs)) (.sl true 1 (dl D.str o.led))
def aC8 (o:Off) (j:Nat) (l:List Ob):St:=⟨[(1,.d (.ptr o.s)),(2,.ptr 1 0 []),(3,.ptr j 0 [])],.dead :: .box zO :: (l ++ [.box (cG o (.sl true 4 .nil) (.sl true 1 (dl D.str o.led)))])⟩
theorem aJt {F:(St->Prop)->Prop} {Q:St->Prop} (J:St->Prop) (h:F J) (h2:∀ s',J s'->∃ s1,eN s' s1/\Q s1):onJ F Q:=⟨J,h,h2⟩
theorem sA (v:List Int) (hlen:v.length<=1048576):Fn prog 89 [.sl false 1 (dl iD v)] (fun rs=>rs=[.sl true 1 (dl iD v)]):=by
 refine bV (fn:=f89) (by exact func89) c89 r89 (n:=6) (by rfl) (rv:=[.tmp 2]) (by rfl) (by simp) ?_
 unfold m89
 try simp only [wQ]
 simp only [a7,↓wA,↓wC,wB,aY,aW,reduceEqDiff,reduceAdd,reduceSub,reduceIte,reduceCtorEq,Nat.reduceBEq,reduceLT,bU]
 refine bK ⟨by omega,by omega⟩ ?_
 simp only [↓wA,↓wC,wB,aY,aW,reduceEqDiff,reduceAdd,reduceSub,reduceIte,reduceCtorEq,Nat.reduceBEq,reduceLT,bU]
theorem jV (o:Off) (ho:o.ok0):Fn prog 52 [o.s] (fun rs=>rs=[o.w]):=by
 have hlen:=ho.1.1
 have hlen2:=ho.2.1
 refine fK (ps:=[[1,1,0,1,0,0,1,0,0,1],[1,1,0,1,0,0,1,0,0,1],[1,0]]) (fn:=f52) (by exact func52) c52 r52 (n:=46) (by rfl) (rv:=[.cell 2 27]) (by rfl) (by simp) ?_
 unfold m52
 try simp only [wQ]
 simp only [dP,eR]
 simp only [Off.s,cG]
 repeat' (first|(simp only [bB,bE,aV,a7,↓wA,↓wC,wB,aY,aW,reduceEqDiff,reduceAdd,reduceSub,reduceIte,reduceCtorEq,Nat.reduceBEq,reduceLT,bU])|((first|apply aO|apply aQ|apply aK)<;>intro h<;>try simp only [h]))
 refine bR (gG 0 rfl) ?_
 simp only [aY,aW,D.unown,eM,jG,bB,bE,aV,a7,↓wA,↓wC,wB,aY,aW,reduceEqDiff,reduceAdd,reduceSub,reduceIte,reduceCtorEq,Nat.reduceBEq,reduceLT,bU]
 refine aJt (fun s=>eN s (aC8 o 2 [])\/eN s (aC8 o 3 [.dead])\/eN s (aC8 o 4 [.dead,.dead])\/eN s (aC8 o 5 [.dead,.dead,.dead])) ?_ ?_
 ·repeat' (first
   |(with_reducible refine And.intro ?_ ?_)
   |(with_reducible refine bK ?_ ?_; focus omega))
  all_goals (first|exact .inl (bF _ rfl ⟨⟨rfl,rfl⟩,⟨rfl,rfl⟩,⟨rfl,rfl⟩,trivial⟩)|exact .inr (.inl (bF _ rfl ⟨⟨rfl,rfl⟩,⟨rfl,rfl⟩,⟨rfl,rfl⟩,trivial⟩))|exact .inr (.inr (.inl (bF _ rfl ⟨⟨rfl,rfl⟩,⟨rfl,rfl⟩,⟨rfl,rfl⟩,trivial⟩)))|exact .inr (.inr (.inr (bF _ rfl ⟨⟨rfl,rfl⟩,⟨rfl,rfl⟩,⟨rfl,rfl⟩,trivial⟩)))|trace_state)
 ·rintro s' (h|h|h|h)
  ·refine ⟨_,h,?_⟩
   simp only [aC8,List.cons_append,List.nil_append,↓wA,↓wC,wB,aY,aW,reduceEqDiff,reduceAdd,reduceSub,reduceIte,reduceCtorEq,Nat.reduceBEq,reduceLT,bU]
   refine cP o.cs.length (fun i:Nat=>⟨[(1,.d (.ptr o.s)),(2,.ptr 1 0 []),(3,.ptr 2 0 []),(4,.d (.int .i64 i))],.dead :: .box zO :: ([] ++ [.box (cG o (.sl true 4 (dl Cs.s (o.cs.take i))) (.sl true 1 (dl D.str o.led)))])⟩) (fun _=>True) ?_ trivial ?_ ?_
   ·exact (bF _ rfl ⟨⟨rfl,rfl⟩,⟨rfl,rfl⟩,⟨rfl,rfl⟩,⟨rfl,rfl⟩,trivial⟩)
   ·intro i hlt _ hd h0
    obtain ⟨x,hr⟩:=cK hlt
    have h1:Fn prog 89 [.sl false 1 (dl iD x.h)] (fun rs=>rs=[.sl false 1 (dl iD x.h)]):=by
     have h:=iV (sA x.h (ho.1.2 x (List.mem_of_getElem? hr)))
     simpa [D.unown,c9] using h
    simp only [Off.s,cG,List.cons_append,List.nil_append]
    repeat' (first|(simp only [a7,hd,h0,bW,Int.toNat_natCast,hr,Option.map_some,aV,bB,bE,↓gH,Cs.s_isV,Cs.s_size,↓wA,↓wC,wB,aY,aW,reduceEqDiff,reduceAdd,reduceSub,reduceIte,reduceCtorEq,Nat.reduceBEq,reduceLT,bU])|(refine bA (by simp only [cV]; omega) ?_)|((first|apply aO|apply aQ|apply aK)<;>intro h<;>try simp only [h]))
    refine bR (gG 3 rfl) ?_
    simp only [aY,aW,Cs.s_unown,↓wA,↓wC,wB,aY,aW,reduceEqDiff,reduceAdd,reduceSub,reduceIte,reduceCtorEq,Nat.reduceBEq,reduceLT,bU]
    refine dQ _ (eA 2 none [1] (es:=4) (xs:=dl Cs.s (o.cs.take i)) rfl rfl) fun v1=>?_
    simp only [cX,Cs.s,Cs.p,bB,bE,aV,a7,↓wA,↓wC,wB,aY,aW,reduceEqDiff,reduceAdd,reduceSub,reduceIte,reduceCtorEq,Nat.reduceBEq,reduceLT,bU]
    repeat' (first|(simp only [a7,hd,h0,aV,bB,bE,bJ,↓wA,↓wC,wB,aY,aW,reduceEqDiff,reduceAdd,reduceSub,reduceIte,reduceCtorEq,Nat.reduceBEq,reduceLT,bU])|(refine cT ?_)|(refine aZ h1 rfl rfl ?_)|(with_reducible refine bK ?_ ?_; focus omega)|(refine bA (by simp only [cV]; omega) ?_)|((first|apply aO|apply aQ|apply aK)<;>intro h<;>try simp only [h]))
    refine bK (by simp) ?_
    have hl:(o.cs.take i).length=i:=by simp; omega
    refine bK (by rw [hl]; omega) ?_
    refine bA (by simp only [cV]; omega) ?_
    refine ⟨i + 1,?_,by omega,by omega⟩
    have happ:(dl Cs.s (o.cs.take i)).app ((D.st (.cons (.int .i64 x.i) (.cons (.int .i64 x.a) (.cons (.int .i64 x.d) (.cons (.sl false 1 (dl iD x.h)) .nil))))).cons .nil)=dl Cs.s (o.cs.take (i + 1)):=(iG (f:=Cs.s) (o.cs.take i) x).trans (by rw [fF hr])
    rw [happ]
    exact (bF _ rfl ⟨⟨rfl,rfl⟩,⟨rfl,rfl⟩,⟨rfl,rfl⟩,⟨rfl,rfl⟩,trivial⟩)
   ·intro _ hd
    rw [List.take_length]
    simp only [Off.s,cG,List.cons_append,List.nil_append]
    repeat' (first|(simp only [a7,hd,aV,↓wA,↓wC,wB,aY,aW,reduceEqDiff,reduceAdd,reduceSub,reduceIte,reduceCtorEq,Nat.reduceBEq,reduceLT,bU])|((first|apply aO|apply aQ|apply aK)<;>intro h<;>try simp only [h]))
    exact bK (bB _) (bK rfl (bK rfl rfl))
  ·refine ⟨_,h,?_⟩
   simp only [aC8,List.cons_append,List.nil_append,↓wA,↓wC,wB,aY,aW,reduceEqDiff,reduceAdd,reduceSub,reduceIte,reduceCtorEq,Nat.reduceBEq,reduceLT,bU]
   refine cP o.cs.length (fun i:Nat=>⟨[(1,.d (.ptr o.s)),(2,.ptr 1 0 []),(3,.ptr 3 0 []),(4,.d (.int .i64 i))],.dead :: .box zO :: ([.dead] ++ [.box (cG o (.sl true 4 (dl Cs.s (o.cs.take i))) (.sl true 1 (dl D.str o.led)))])⟩) (fun _=>True) ?_ trivial ?_ ?_
   ·exact (bF _ rfl ⟨⟨rfl,rfl⟩,⟨rfl,rfl⟩,⟨rfl,rfl⟩,⟨rfl,rfl⟩,trivial⟩)
   ·intro i hlt _ hd h0
    obtain ⟨x,hr⟩:=cK hlt
    have h1:Fn prog 89 [.sl false 1 (dl iD x.h)] (fun rs=>rs=[.sl false 1 (dl iD x.h)]):=by
     have h:=iV (sA x.h (ho.1.2 x (List.mem_of_getElem? hr)))
     simpa [D.unown,c9] using h
    simp only [Off.s,cG,List.cons_append,List.nil_append]
    repeat' (first|(simp only [a7,hd,h0,bW,Int.toNat_natCast,hr,Option.map_some,aV,bB,bE,↓gH,Cs.s_isV,Cs.s_size,↓wA,↓wC,wB,aY,aW,reduceEqDiff,reduceAdd,reduceSub,reduceIte,reduceCtorEq,Nat.reduceBEq,reduceLT,bU])|(refine bA (by simp only [cV]; omega) ?_)|((first|apply aO|apply aQ|apply aK)<;>intro h<;>try simp only [h]))
    refine bR (gG 4 rfl) ?_
    simp only [aY,aW,Cs.s_unown,↓wA,↓wC,wB,aY,aW,reduceEqDiff,reduceAdd,reduceSub,reduceIte,reduceCtorEq,Nat.reduceBEq,reduceLT,bU]
    refine dQ _ (eA 3 none [1] (es:=4) (xs:=dl Cs.s (o.cs.take i)) rfl rfl) fun v1=>?_
    simp only [cX,Cs.s,Cs.p,bB,bE,aV,a7,↓wA,↓wC,wB,aY,aW,reduceEqDiff,reduceAdd,reduceSub,reduceIte,reduceCtorEq,Nat.reduceBEq,reduceLT,bU]
    repeat' (first|(simp only [a7,hd,h0,aV,bB,bE,bJ,↓wA,↓wC,wB,aY,aW,reduceEqDiff,reduceAdd,reduceSub,reduceIte,reduceCtorEq,Nat.reduceBEq,reduceLT,bU])|(refine cT ?_)|(refine aZ h1 rfl rfl ?_)|(with_reducible refine bK ?_ ?_; focus omega)|(refine bA (by simp only [cV]; omega) ?_)|((first|apply aO|apply aQ|apply aK)<;>intro h<;>try simp only [h]))
    refine bK (by simp) ?_
    have hl:(o.cs.take i).length=i:=by simp; omega
    refine bK (by rw [hl]; omega) ?_
    refine bA (by simp only [cV]; omega) ?_
    refine ⟨i + 1,?_,by omega,by omega⟩
    have happ:(dl Cs.s (o.cs.take i)).app ((D.st (.cons (.int .i64 x.i) (.cons (.int .i64 x.a) (.cons (.int .i64 x.d) (.cons (.sl false 1 (dl iD x.h)) .nil))))).cons .nil)=dl Cs.s (o.cs.take (i + 1)):=(iG (f:=Cs.s) (o.cs.take i) x).trans (by rw [fF hr])
    rw [happ]
    exact (bF _ rfl ⟨⟨rfl,rfl⟩,⟨rfl,rfl⟩,⟨rfl,rfl⟩,⟨rfl,rfl⟩,trivial⟩)
   ·intro _ hd
    rw [List.take_length]
    simp only [Off.s,cG,List.cons_append,List.nil_append]
    repeat' (first|(simp only [a7,hd,aV,↓wA,↓wC,wB,aY,aW,reduceEqDiff,reduceAdd,reduceSub,reduceIte,reduceCtorEq,Nat.reduceBEq,reduceLT,bU])|((first|apply aO|apply aQ|apply aK)<;>intro h<;>try simp only [h]))
    exact bK (bB _) (bK rfl (bK rfl rfl))
  ·refine ⟨_,h,?_⟩
   simp only [aC8,List.cons_append,List.nil_append,↓wA,↓wC,wB,aY,aW,reduceEqDiff,reduceAdd,reduceSub,reduceIte,reduceCtorEq,Nat.reduceBEq,reduceLT,bU]
   refine cP o.cs.length (fun i:Nat=>⟨[(1,.d (.ptr o.s)),(2,.ptr 1 0 []),(3,.ptr 4 0 []),(4,.d (.int .i64 i))],.dead :: .box zO :: ([.dead,.dead] ++ [.box (cG o (.sl true 4 (dl Cs.s (o.cs.take i))) (.sl true 1 (dl D.str o.led)))])⟩) (fun _=>True) ?_ trivial ?_ ?_
   ·exact (bF _ rfl ⟨⟨rfl,rfl⟩,⟨rfl,rfl⟩,⟨rfl,rfl⟩,⟨rfl,rfl⟩,trivial⟩)
   ·intro i hlt _ hd h0
    obtain ⟨x,hr⟩:=cK hlt
    have h1:Fn prog 89 [.sl false 1 (dl iD x.h)] (fun rs=>rs=[.sl false 1 (dl iD x.h)]):=by
     have h:=iV (sA x.h (ho.1.2 x (List.mem_of_getElem? hr)))
     simpa [D.unown,c9] using h
    simp only [Off.s,cG,List.cons_append,List.nil_append]
    repeat' (first|(simp only [a7,hd,h0,bW,Int.toNat_natCast,hr,Option.map_some,aV,bB,bE,↓gH,Cs.s_isV,Cs.s_size,↓wA,↓wC,wB,aY,aW,reduceEqDiff,reduceAdd,reduceSub,reduceIte,reduceCtorEq,Nat.reduceBEq,reduceLT,bU])|(refine bA (by simp only [cV]; omega) ?_)|((first|apply aO|apply aQ|apply aK)<;>intro h<;>try simp only [h]))
    refine bR (gG 5 rfl) ?_
    simp only [aY,aW,Cs.s_unown,↓wA,↓wC,wB,aY,aW,reduceEqDiff,reduceAdd,reduceSub,reduceIte,reduceCtorEq,Nat.reduceBEq,reduceLT,bU]
    refine dQ _ (eA 4 none [1] (es:=4) (xs:=dl Cs.s (o.cs.take i)) rfl rfl) fun v1=>?_
    simp only [cX,Cs.s,Cs.p,bB,bE,aV,a7,↓wA,↓wC,wB,aY,aW,reduceEqDiff,reduceAdd,reduceSub,reduceIte,reduceCtorEq,Nat.reduceBEq,reduceLT,bU]
    repeat' (first|(simp only [a7,hd,h0,aV,bB,bE,bJ,↓wA,↓wC,wB,aY,aW,reduceEqDiff,reduceAdd,reduceSub,reduceIte,reduceCtorEq,Nat.reduceBEq,reduceLT,bU])|(refine cT ?_)|(refine aZ h1 rfl rfl ?_)|(with_reducible refine bK ?_ ?_; focus omega)|(refine bA (by simp only [cV]; omega) ?_)|((first|apply aO|apply aQ|apply aK)<;>intro h<;>try simp only [h]))
    refine bK (by simp) ?_
    have hl:(o.cs.take i).length=i:=by simp; omega
    refine bK (by rw [hl]; omega) ?_
    refine bA (by simp only [cV]; omega) ?_
    refine ⟨i + 1,?_,by omega,by omega⟩
    have happ:(dl Cs.s (o.cs.take i)).app ((D.st (.cons (.int .i64 x.i) (.cons (.int .i64 x.a) (.cons (.int .i64 x.d) (.cons (.sl false 1 (dl iD x.h)) .nil))))).cons .nil)=dl Cs.s (o.cs.take (i + 1)):=(iG (f:=Cs.s) (o.cs.take i) x).trans (by rw [fF hr])
    rw [happ]
    exact (bF _ rfl ⟨⟨rfl,rfl⟩,⟨rfl,rfl⟩,⟨rfl,rfl⟩,⟨rfl,rfl⟩,trivial⟩)
   ·intro _ hd
    rw [List.take_length]
    simp only [Off.s,cG,List.cons_append,List.nil_append]
    repeat' (first|(simp only [a7,hd,aV,↓wA,↓wC,wB,aY,aW,reduceEqDiff,reduceAdd,reduceSub,reduceIte,reduceCtorEq,Nat.reduceBEq,reduceLT,bU])|((first|apply aO|apply aQ|apply aK)<;>intro h<;>try simp only [h]))
    exact bK (bB _) (bK rfl (bK rfl rfl))
  ·refine ⟨_,h,?_⟩
   simp only [aC8,List.cons_append,List.nil_append,↓wA,↓wC,wB,aY,aW,reduceEqDiff,reduceAdd,reduceSub,reduceIte,reduceCtorEq,Nat.reduceBEq,reduceLT,bU]
   refine cP o.cs.length (fun i:Nat=>⟨[(1,.d (.ptr o.s)),(2,.ptr 1 0 []),(3,.ptr 5 0 []),(4,.d (.int .i64 i))],.dead :: .box zO :: ([.dead,.dead,.dead] ++ [.box (cG o (.sl true 4 (dl Cs.s (o.cs.take i))) (.sl true 1 (dl D.str o.led)))])⟩) (fun _=>True) ?_ trivial ?_ ?_
   ·exact (bF _ rfl ⟨⟨rfl,rfl⟩,⟨rfl,rfl⟩,⟨rfl,rfl⟩,⟨rfl,rfl⟩,trivial⟩)
   ·intro i hlt _ hd h0
    obtain ⟨x,hr⟩:=cK hlt
    have h1:Fn prog 89 [.sl false 1 (dl iD x.h)] (fun rs=>rs=[.sl false 1 (dl iD x.h)]):=by
     have h:=iV (sA x.h (ho.1.2 x (List.mem_of_getElem? hr)))
     simpa [D.unown,c9] using h
    simp only [Off.s,cG,List.cons_append,List.nil_append]
    repeat' (first|(simp only [a7,hd,h0,bW,Int.toNat_natCast,hr,Option.map_some,aV,bB,bE,↓gH,Cs.s_isV,Cs.s_size,↓wA,↓wC,wB,aY,aW,reduceEqDiff,reduceAdd,reduceSub,reduceIte,reduceCtorEq,Nat.reduceBEq,reduceLT,bU])|(refine bA (by simp only [cV]; omega) ?_)|((first|apply aO|apply aQ|apply aK)<;>intro h<;>try simp only [h]))
    refine bR (gG 6 rfl) ?_
    simp only [aY,aW,Cs.s_unown,↓wA,↓wC,wB,aY,aW,reduceEqDiff,reduceAdd,reduceSub,reduceIte,reduceCtorEq,Nat.reduceBEq,reduceLT,bU]
    refine dQ _ (eA 5 none [1] (es:=4) (xs:=dl Cs.s (o.cs.take i)) rfl rfl) fun v1=>?_
    simp only [cX,Cs.s,Cs.p,bB,bE,aV,a7,↓wA,↓wC,wB,aY,aW,reduceEqDiff,reduceAdd,reduceSub,reduceIte,reduceCtorEq,Nat.reduceBEq,reduceLT,bU]
    repeat' (first|(simp only [a7,hd,h0,aV,bB,bE,bJ,↓wA,↓wC,wB,aY,aW,reduceEqDiff,reduceAdd,reduceSub,reduceIte,reduceCtorEq,Nat.reduceBEq,reduceLT,bU])|(refine cT ?_)|(refine aZ h1 rfl rfl ?_)|(with_reducible refine bK ?_ ?_; focus omega)|(refine bA (by simp only [cV]; omega) ?_)|((first|apply aO|apply aQ|apply aK)<;>intro h<;>try simp only [h]))
    refine bK (by simp) ?_
    have hl:(o.cs.take i).length=i:=by simp; omega
    refine bK (by rw [hl]; omega) ?_
    refine bA (by simp only [cV]; omega) ?_
    refine ⟨i + 1,?_,by omega,by omega⟩
    have happ:(dl Cs.s (o.cs.take i)).app ((D.st (.cons (.int .i64 x.i) (.cons (.int .i64 x.a) (.cons (.int .i64 x.d) (.cons (.sl false 1 (dl iD x.h)) .nil))))).cons .nil)=dl Cs.s (o.cs.take (i + 1)):=(iG (f:=Cs.s) (o.cs.take i) x).trans (by rw [fF hr])
    rw [happ]
    exact (bF _ rfl ⟨⟨rfl,rfl⟩,⟨rfl,rfl⟩,⟨rfl,rfl⟩,⟨rfl,rfl⟩,trivial⟩)
   ·intro _ hd
    rw [List.take_length]
    simp only [Off.s,cG,List.cons_append,List.nil_append]
    repeat' (first|(simp only [a7,hd,aV,↓wA,↓wC,wB,aY,aW,reduceEqDiff,reduceAdd,reduceSub,reduceIte,reduceCtorEq,Nat.reduceBEq,reduceLT,bU])|((first|apply aO|apply aQ|apply aK)<;>intro h<;>try simp only [h]))
    exact bK (bB _) (bK rfl (bK rfl rfl))
end Go.Pe.Tryz
set_option maxRecDepth 100000
set_option maxHeartbeats 4000000
set_option linter.all false
namespace Go.Pe.Tryz
open Nat (reduceEqDiff reduceAdd reduceSub reduceLT)
open Go.Proofs.Tryz
theorem aEf (o:Off) (k id a v:Int) (ho:o.ok0):Fn prog 41 [o.s,lG k id a v] (fun rs=>rs=[.bool (kY o k id a v)]):=by
 have hF:=jN o id ho
 have hid:=jT id 1 999
 have ha:=jT a 1 3
 have hv:=jT v 1 9
 unfold kY
 refine bV (fn:=f41) (by exact func41) c41 r41 (n:=106) (by rfl) (rv:=[.tmp 4]) (by rfl) (by simp) ?_
 unfold m41
 try simp only [wQ]
 simp only [lG]
 repeat' (first|(simp only [Off.s_noOwn,Off.s_isV,Off.s_size,↓b9,aV,↓wA,↓wC,wB,aY,aW,reduceEqDiff,reduceAdd,reduceSub,reduceIte,reduceCtorEq,Nat.reduceBEq,reduceLT,bU])|(refine aZ hF (by simp [cA,cW,Off.s_unown]) rfl ?_)|(refine aZ (hid) rfl rfl ?_)|(refine a6 (hid) rfl rfl ?_)|(refine aZ (ha) rfl rfl ?_)|(refine a6 (ha) rfl rfl ?_)|(refine aZ (hv) rfl rfl ?_)|(refine a6 (hv) rfl rfl ?_)|((first|apply aO|apply aQ|apply aK)<;>intro h<;>try simp only [h]))
 all_goals simp_all
theorem aDi (o:Off) (k id a v:Int) (ho:o.ok0) (hb:cV .i64 (o.day + v)):Fn prog 76 [o.s,lG k id a v] (fun rs=>rs=[Off.w { o with cs:=gM ⟨id,a,o.day + v,[]⟩ o.cs }]):=by
 have hO:=jV o ho
 have hno:o.w.noOwn=false:=by simp [Off.w,cG,D.noOwn]
 have hwV:o.w.isV=true:=rfl
 have hwS:o.w.size=5:=rfl
 have hlen:=ho.1.1
 refine fK (ps:=[[1,1,1,1,1,0],[1,1,0],[1,1,0],[1,1,0]]) (fn:=f76) (by exact func76) c76 r76 (n:=55) (by rfl) (rv:=[.cell 4 27]) (by rfl) (by simp) ?_
 unfold m76
 try simp only [wQ]
 simp only [dP,eR]
 simp only [lG]
 repeat' (first|(simp only [Off.s_noOwn,Off.s_isV,Off.s_size,hno,hwV,hwS,↓b9,aV,↓wA,↓wC,wB,aY,aW,reduceEqDiff,reduceAdd,reduceSub,reduceIte,reduceCtorEq,Nat.reduceBEq,reduceLT,bU])|(refine aZ hO (by simp [cA,cW,Off.s_unown]) rfl ?_)|((first|apply aO|apply aQ|apply aK)<;>intro h<;>try simp only [h]))
 refine bR (gG 0 rfl) ?_
 simp only [aY,aW,Off.s_unown,↓wA,↓wC,wB,aY,aW,reduceEqDiff,reduceAdd,reduceSub,reduceIte,reduceCtorEq,Nat.reduceBEq,reduceLT,bU]
 refine bR (gG 1 rfl) ?_
 simp only [aY,aW,D.unown,↓wA,↓wC,wB,aY,aW,reduceEqDiff,reduceAdd,reduceSub,reduceIte,reduceCtorEq,Nat.reduceBEq,reduceLT,bU]
 refine bR (freeze 4 none [1] (x:=.sl true 4 (dl Cs.s o.cs)) rfl rfl rfl) ?_
 simp only [cX,Off.w,cG,D.unown,eM,↓wA,↓wC,wB,aY,aW,reduceEqDiff,reduceAdd,reduceSub,reduceIte,reduceCtorEq,Nat.reduceBEq,reduceLT,bU]
 refine dZ (fun j:Nat=>⟨[(2,.d (.ptr o.s)),(3,.d (.ptr (lG k id a v))),(4,.ptr 2 0 []),(5,.ptr 4 0 []),(6,.d (.int .i64 j))],[.dead,.dead,.box zO,.dead,.box (cG o (.sl false 4 (dl Cs.s o.cs)) (.sl true 1 (dl D.str o.led)))]⟩) (fun j=>j<=o.cs.length/\∀ m x,m < j->o.cs[m]?=some x->x.i < id) (fun j=>o.cs.length - j) 0 (bF _ rfl ⟨⟨rfl,rfl⟩,⟨rfl,rfl⟩,⟨rfl,rfl⟩,⟨rfl,rfl⟩,⟨rfl,rfl⟩,trivial⟩) ⟨by omega,fun m x hm=>by omega⟩ ?_
 rintro j ⟨hj1,hj2⟩
 simp only [cG,lG]
 have hcm:∀ x:Cs,Cs.s x=x.p (.sl false 1 (dl iD x.h)):=fun _=>rfl
 have hj0:(0:Int)<=(j:Int):=by omega
 by_cases hlt:j < o.cs.length
 ·obtain ⟨x,hr⟩:=cK hlt
  have hd:decide ((j:Int) < (o.cs.length:Int))=true:=decide_eq_true (by omega)
  cases hx:decide (x.i < id) with
  | true =>
   repeat' (first|(simp only [aV,a7,bW,hd,hx,hr,hj0,Cs.s,Cs.p,bB,bE,Int.toNat_natCast,Option.map_some,r6,rZ,↓wA,↓wC,wB,aY,aW,reduceEqDiff,reduceAdd,reduceSub,reduceIte,reduceCtorEq,Nat.reduceBEq,reduceLT,bU])|(with_reducible refine bA ?_ ?_; focus (simp only [cV]; omega))|((first|apply aO|apply aQ|apply aK)<;>intro h<;>try simp only [h]))
   refine ⟨j + 1,(bF _ rfl ⟨⟨rfl,rfl⟩,⟨rfl,rfl⟩,⟨rfl,rfl⟩,⟨rfl,rfl⟩,⟨rfl,rfl⟩,trivial⟩),⟨by omega,fun m y hm hy=>?_⟩,by omega⟩
   by_cases e:m=j
   ·subst e
    rw [hr] at hy
    injection hy with hy
    rw [<- hy]; exact of_decide_eq_true hx
   ·exact hj2 m y (by omega) hy
  | false =>
   have hpl:oI id o.cs=j:=oZ o.cs j hj1 hj2 (fun y hy=>by rw [hr] at hy; injection hy with hy; rw [<- hy]; exact of_decide_eq_false hx)
   repeat' (first|(simp only [aV,a7,bW,hd,hx,hr,hj0,Off.s,cG,Cs.s,Cs.p,bB,bE,Int.toNat_natCast,Option.map_some,r6,rZ,↓wA,↓wC,wB,aY,aW,reduceEqDiff,reduceAdd,reduceSub,reduceIte,reduceCtorEq,Nat.reduceBEq,reduceLT,bU])|(with_reducible refine bA hb ?_)|(with_reducible refine bA ?_ ?_; focus (simp only [cV]; omega))|((first|apply aO|apply aQ|apply aK)<;>intro h<;>try simp only [h]))
   refine bR (gG 7 rfl) ?_
   simp only [aY,aW,D.unown,↓wA,↓wC,wB,aY,aW,reduceEqDiff,reduceAdd,reduceSub,reduceIte,reduceCtorEq,Nat.reduceBEq,reduceLT,bU]
   repeat' (first|(simp only [aV,a7,bB,bE,↓wA,↓wC,wB,aY,aW,reduceEqDiff,reduceAdd,reduceSub,reduceIte,reduceCtorEq,Nat.reduceBEq,reduceLT,bU])|(refine cT ?_)|(with_reducible refine And.intro ?_ ?_)|(with_reducible refine bA ?_ ?_; focus (simp only [cV]; omega))|((first|apply aO|apply aQ|apply aK)<;>intro h<;>try simp only [h]))
   have hs1:(dl Cs.s o.cs).sub 0 j=dl Cs.s (o.cs.take j):=by rw [oC]; rfl
   have hs2:(dl Cs.s o.cs).sub j o.cs.length=dl Cs.s (o.cs.drop j):=by rw [oC,List.take_length]
   have happ:∀ xs:List Cs,(dl Cs.s xs).app (D.cons (D.st (.cons (.int .i64 id) (.cons (.int .i64 a) (.cons (.int .i64 (o.day + v)) (.cons (.sl false 1 .nil) .nil))))) .nil)=dl Cs.s (xs ++ [⟨id,a,o.day + v,[]⟩]):=fun xs=>iG (f:=Cs.s) xs ⟨id,a,o.day + v,[]⟩
   have hen:gM ⟨id,a,o.day + v,[]⟩ o.cs=(o.cs.take j ++ [⟨id,a,o.day + v,[]⟩]) ++ o.cs.drop j:=by unfold gM; rw [hpl]; simp
   rw [hen]
   clear hen
   simp only [Int.toNat_natCast,hs1,hs2,happ,tX,a7,List.length_append,List.length_take,List.length_drop,List.length_singleton,Nat.min_eq_left hj1]
   repeat' (first|(with_reducible refine And.intro ?_ ?_)|(with_reducible refine bK ?_ ?_; focus omega)|(with_reducible refine bK ?_ ?_; focus (simp; done))|(with_reducible refine bK ?_ ?_; focus rfl)|rfl)
   all_goals exact bK rfl (bK rfl trivial)
 ·have hd:decide ((j:Int) < (o.cs.length:Int))=false:=decide_eq_false (by omega)
  have hpl:oI id o.cs=j:=oZ o.cs j hj1 hj2 (fun y hy=>by have:=bC hy; omega)
  repeat' (first|(simp only [aV,a7,bW,hd,hd,hd,hj0,Off.s,cG,Cs.s,Cs.p,bB,bE,Int.toNat_natCast,Option.map_some,r6,rZ,↓wA,↓wC,wB,aY,aW,reduceEqDiff,reduceAdd,reduceSub,reduceIte,reduceCtorEq,Nat.reduceBEq,reduceLT,bU])|(with_reducible refine bA hb ?_)|(with_reducible refine bA ?_ ?_; focus (simp only [cV]; omega))|((first|apply aO|apply aQ|apply aK)<;>intro h<;>try simp only [h]))
  refine bR (gG 7 rfl) ?_
  simp only [aY,aW,D.unown,↓wA,↓wC,wB,aY,aW,reduceEqDiff,reduceAdd,reduceSub,reduceIte,reduceCtorEq,Nat.reduceBEq,reduceLT,bU]
  repeat' (first|(simp only [aV,a7,bB,bE,↓wA,↓wC,wB,aY,aW,reduceEqDiff,reduceAdd,reduceSub,reduceIte,reduceCtorEq,Nat.reduceBEq,reduceLT,bU])|(refine cT ?_)|(with_reducible refine And.intro ?_ ?_)|(with_reducible refine bA ?_ ?_; focus (simp only [cV]; omega))|((first|apply aO|apply aQ|apply aK)<;>intro h<;>try simp only [h]))
  have hs1:(dl Cs.s o.cs).sub 0 j=dl Cs.s (o.cs.take j):=by rw [oC]; rfl
  have hs2:(dl Cs.s o.cs).sub j o.cs.length=dl Cs.s (o.cs.drop j):=by rw [oC,List.take_length]
  have happ:∀ xs:List Cs,(dl Cs.s xs).app (D.cons (D.st (.cons (.int .i64 id) (.cons (.int .i64 a) (.cons (.int .i64 (o.day + v)) (.cons (.sl false 1 .nil) .nil))))) .nil)=dl Cs.s (xs ++ [⟨id,a,o.day + v,[]⟩]):=fun xs=>iG (f:=Cs.s) xs ⟨id,a,o.day + v,[]⟩
  have hen:gM ⟨id,a,o.day + v,[]⟩ o.cs=(o.cs.take j ++ [⟨id,a,o.day + v,[]⟩]) ++ o.cs.drop j:=by unfold gM; rw [hpl]; simp
  rw [hen]
  clear hen
  simp only [Int.toNat_natCast,hs1,hs2,happ,tX,a7,List.length_append,List.length_take,List.length_drop,List.length_singleton,Nat.min_eq_left hj1]
  repeat' (first|(with_reducible refine And.intro ?_ ?_)|(with_reducible refine bK ?_ ?_; focus omega)|(with_reducible refine bK ?_ ?_; focus (simp; done))|(with_reducible refine bK ?_ ?_; focus rfl)|rfl)
  all_goals exact bK rfl (bK rfl trivial)
end Go.Pe.Tryz
set_option maxRecDepth 100000
set_option maxHeartbeats 4000000
set_option linter.all false
namespace Go.Pe.Tryz
open Nat (reduceEqDiff reduceAdd reduceSub reduceLT)
open Go.Proofs.Tryz
def wZ (v:Int) (h:List Int):List Int:=h.filter fun n=>!decide (n=v)
theorem aEY {v r:Int} {h:List Int} {k:Nat} (hr:h[k]?=some r):wZ v (h.take (k + 1))=wZ v (h.take k) ++ (if r=v then [] else [r]):=by
 rw [fF hr]
 unfold wZ
 rw [List.filter_append]
 by_cases e:r=v
 ·simp [e]
 ·simp [e]
theorem aG9 {v r:Int} {h:List Int} {k:Nat} (hr:h[k]?=some r):(h.take (k + 1)).contains v=((h.take k).contains v || decide (v=r)):=by
 rw [fF hr]
 simp [List.contains_eq_any_beq,List.any_append]
theorem aI9 (v:Int) (h:List Int):(wZ v h).length<=h.length:=List.length_filter_le _ _
theorem aAQ (o:Off) (v:Int) (ho:o.ok0):Fn prog 78 [o.s,.int .i64 v] (fun rs=>rs=[Off.w { o with cs:=o.cs.map (l9 v) },.bool (oK v o.cs)]):=by
 have hO:=jV o ho
 have hno:o.w.noOwn=false:=by simp [Off.w,cG,D.noOwn]
 have hwV:o.w.isV=true:=rfl
 have hwS:o.w.size=5:=rfl
 have hlen:=ho.1.1
 refine fK (ps:=[[1,1,0,1,0,0,1,0,0,1,1],[1,1,0,0],[1,1,1,0]]) (fn:=f78) (by exact func78) c78 r78 (n:=57) (by rfl) (rv:=[.cell 4 27,.tmp 5]) (by rfl) (by simp) ?_
 unfold m78
 try simp only [wQ]
 simp only [dP,eR]
 repeat' (first|(simp only [Off.s_noOwn,Off.s_isV,Off.s_size,hno,hwV,hwS,↓b9,aV,↓wA,↓wC,wB,aY,aW,reduceEqDiff,reduceAdd,reduceSub,reduceIte,reduceCtorEq,Nat.reduceBEq,reduceLT,bU])|(refine aZ hO (by simp [cA,cW,Off.s_unown]) rfl ?_)|((first|apply aO|apply aQ|apply aK)<;>intro h<;>try simp only [h]))
 simp only [Off.w,cG]
 refine dQ _ (eA 3 none [1] (es:=4) (xs:=dl Cs.s o.cs) rfl rfl) fun v1=>?_
 simp only [cX,aV,a7,↓wA,↓wC,wB,aY,aW,reduceEqDiff,reduceAdd,reduceSub,reduceIte,reduceCtorEq,Nat.reduceBEq,reduceLT,bU]
 refine cP o.cs.length (fun i:Nat=>⟨[(1,.d (.int .i64 v)),(4,.ptr 1 0 []),(6,.ptr 3 0 []),(7,.d (.bool (oK v (o.cs.take i)))),(8,.d (.int .i64 i))],[.box o.s,.box zO,.dead,.box (cG o (.lnk 5 v1) (.sl true 1 (dl D.str o.led))),.val (.sl true 4 (dl Cs.s (pL v o.cs i))),.tag 4 v1]⟩) (fun _=>True) ?_ trivial ?_ ?_
 ·exact (bF _ rfl ⟨⟨rfl,rfl⟩,⟨rfl,rfl⟩,⟨rfl,rfl⟩,⟨rfl,rfl⟩,⟨rfl,rfl⟩,trivial⟩)
 ·intro i hlt _ hd h0
  obtain ⟨x,hr⟩:=cK hlt
  have hg:=aCP (v:=v) hr
  have hxo:=ho.1.2 x (List.mem_of_getElem? hr)
  have hxl:x.h.length<=1048576:=hxo
  have hxs:Cs.s x=x.p (.sl false 1 (dl iD x.h)):=rfl
  have hgs:∀ (y:D),((dl Cs.s (pL v o.cs i)).setN i y).nth i=some y:=fun y=>by rw [m9,if_pos rfl,bW,hg]; rfl
  have hgn:(dl Cs.s (pL v o.cs i)).nth i=some (x.p (.sl false 1 (dl iD x.h))):=by rw [bW,hg]; rfl
  have hx:=aA7 (v:=v) hr
  simp only [cG]
  repeat' (first|(simp only [a7,k9,hd,h0,aV,↓wA,↓wC,wB,aY,aW,reduceEqDiff,reduceAdd,reduceSub,reduceIte,reduceCtorEq,Nat.reduceBEq,reduceLT,bU])|((first|apply aO|apply aQ|apply aK)<;>intro h<;>try simp only [h]))
  refine cP x.h.length (fun k:Nat=>⟨[(1,.d (.int .i64 v)),(4,.ptr 1 0 []),(6,.ptr 3 0 []),(7,.d (.bool (oK v (o.cs.take i) || (x.h.take k).contains v))),(8,.d (.int .i64 i)),(9,.own 6),(10,.d (.int .i64 k))],[.box o.s,.box zO,.dead,.box (cG o (.lnk 5 v1) (.sl true 1 (dl D.str o.led))),.val (.sl true 4 (dl Cs.s (pL v o.cs i))),.tag 4 v1,.val (.sl true 1 (dl iD (wZ v (x.h.take k))))]⟩) (fun _=>True) ?_ trivial ?_ ?_
  ·rw [List.take_zero,show ([]:List Int).contains v=false from rfl,Bool.or_false]
   exact (bF _ rfl ⟨⟨rfl,rfl⟩,⟨rfl,rfl⟩,⟨rfl,rfl⟩,⟨rfl,rfl⟩,⟨rfl,rfl⟩,⟨rfl,rfl⟩,⟨rfl,rfl⟩,trivial⟩)
  ·intro k hk _ hkd hk0
   obtain ⟨r,hkr⟩:=cK hk
   have hlx:=aEY (v:=v) hkr
   have hhx:=aG9 (v:=v) hkr
   simp only [cG]
   cases hrv:decide (r=v) with
   | true =>
    have hrv':=of_decide_eq_true hrv
    rw [if_pos hrv',List.append_nil] at hlx
    rw [decide_eq_true hrv'.symm,Bool.or_true] at hhx
    repeat' (first|(simp only [a7,k9,hd,h0,hkd,hk0,hrv,hgn,bW,hkr,Int.toNat_natCast,Option.map_some,e9,bJ,aV,eY,dR,dO,↓wA,↓wC,wB,aY,aW,reduceEqDiff,reduceAdd,reduceSub,reduceIte,reduceCtorEq,Nat.reduceBEq,reduceLT,bU])|(with_reducible refine bA ?_ ?_; focus (simp only [cV]; omega))|((first|apply aO|apply aQ|apply aK)<;>intro h<;>try simp only [h]))
    refine ⟨k + 1,?_,by omega,by omega⟩
    rw [hlx,hhx,Bool.or_true]
    exact (bF _ rfl ⟨⟨rfl,rfl⟩,⟨rfl,rfl⟩,⟨rfl,rfl⟩,⟨rfl,rfl⟩,⟨rfl,rfl⟩,⟨rfl,rfl⟩,⟨rfl,rfl⟩,trivial⟩)
   | false =>
    have hrv':=of_decide_eq_false hrv
    rw [if_neg hrv'] at hlx
    rw [decide_eq_false (fun e=>hrv' e.symm),Bool.or_false] at hhx
    repeat' (first|(simp only [a7,k9,hd,h0,hkd,hk0,hrv,hgn,bW,hkr,Int.toNat_natCast,Option.map_some,e9,bJ,aV,eY,dR,dO,↓wA,↓wC,wB,aY,aW,reduceEqDiff,reduceAdd,reduceSub,reduceIte,reduceCtorEq,Nat.reduceBEq,reduceLT,bU])|(with_reducible refine bA ?_ ?_; focus (simp only [cV]; omega))|((first|apply aO|apply aQ|apply aK)<;>intro h<;>try simp only [h]))
    have hll:=aI9 v (x.h.take k)
    have hlt2:(x.h.take k).length<=k:=by simp; omega
    refine bK (by simp) ?_
    refine bK (by omega) ?_
    refine bA (by simp only [cV]; omega) ?_
    have happ:(dl iD (wZ v (x.h.take k))).app (D.cons (.int .i64 r) .nil)=dl iD (wZ v (x.h.take (k + 1))):=(iG (f:=iD) _ r).trans (by rw [hlx])
    rw [happ]
    refine ⟨k + 1,?_,by omega,by omega⟩
    rw [hhx]
    exact (bF _ rfl ⟨⟨rfl,rfl⟩,⟨rfl,rfl⟩,⟨rfl,rfl⟩,⟨rfl,rfl⟩,⟨rfl,rfl⟩,⟨rfl,rfl⟩,⟨rfl,rfl⟩,trivial⟩)
  ·intro _ hkd
   rw [List.take_length]
   simp only [cG]
   repeat' (first|(simp only [a7,k9,hd,h0,hkd,hgn,bW,Int.toNat_natCast,Option.map_some,bJ,aV,eY,dR,dO,↓wA,↓wC,wB,aY,aW,reduceEqDiff,reduceAdd,reduceSub,reduceIte,reduceCtorEq,Nat.reduceBEq,reduceLT,bU])|((first|apply aO|apply aQ|apply aK)<;>intro h<;>try simp only [h]))
   refine bR (aJc 6 rfl) ?_
   simp only [jX,iZ,D.unown,c9,↓wA,↓wC,wB,aY,aW,reduceEqDiff,reduceAdd,reduceSub,reduceIte,reduceCtorEq,Nat.reduceBEq,reduceLT,bU]
   repeat' (first|(simp only [a7,k9,hd,h0,hgn,hgs,dV,bW,Int.toNat_natCast,Option.map_some,bJ,aV,eY,dR,dO,↓wA,↓wC,wB,aY,aW,reduceEqDiff,reduceAdd,reduceSub,reduceIte,reduceCtorEq,Nat.reduceBEq,reduceLT,bU])|(with_reducible refine bA ?_ ?_; focus (simp only [cV]; omega))|((first|apply aO|apply aQ|apply aK)<;>intro h<;>try simp only [h]))
   have e:x.p (.sl false 1 (dl iD (wZ v x.h)))=Cs.s (l9 v x):=rfl
   rw [e,i8,yA hr]
   refine ⟨i + 1,?_,by omega,by omega⟩
   rw [hx]
   exact (bF _ rfl ⟨⟨rfl,rfl⟩,⟨rfl,rfl⟩,⟨rfl,rfl⟩,⟨rfl,rfl⟩,⟨rfl,rfl⟩,trivial⟩)
 ·intro _ hd
  have er:pL v o.cs o.cs.length=o.cs.map (l9 v):=by simp [pL]
  rw [er,List.take_length]
  simp only [cG]
  repeat' (first|(simp only [a7,List.length_map,hd,aV,↓wA,↓wC,wB,aY,aW,reduceEqDiff,reduceAdd,reduceSub,reduceIte,reduceCtorEq,Nat.reduceBEq,reduceLT,bU])|((first|apply aO|apply aQ|apply aK)<;>intro h<;>try simp only [h]))
  refine bR (jQ 3 5 4 none [1] rfl rfl rfl rfl (by decide) rfl) ?_
  simp only [cX,↓wA,↓wC,wB,aY,aW,reduceEqDiff,reduceAdd,reduceSub,reduceIte,reduceCtorEq,Nat.reduceBEq,reduceLT,bU]
  repeat' (first|(simp only [bE,aV,↓wA,↓wC,wB,aY,aW,reduceEqDiff,reduceAdd,reduceSub,reduceIte,reduceCtorEq,Nat.reduceBEq,reduceLT,bU])|((first|apply aO|apply aQ|apply aK)<;>intro h<;>try simp only [h]))
  exact bK rfl (bK rfl trivial)
end Go.Pe.Tryz
set_option maxRecDepth 100000
set_option maxHeartbeats 4000000
set_option linter.all false
namespace Go.Pe.Tryz
open Nat (reduceEqDiff reduceAdd reduceSub reduceLT)
open Go.Proofs.Tryz
def xI (o:Off) (x:Cs) (i:Nat) (a:Nat) (l:List Ob):St:=⟨[(1,.d (.int .i64 i)),(2,.d (.ptr o.s)),(4,.ptr 1 0 []),(6,.ptr a 0 []),(7,.d (.ptr x.s))],.dead :: .box zO :: (l ++ [.box (cG o (.sl true 4 (dl Cs.s o.cs)) (.sl true 1 (dl D.str o.led)))])⟩
theorem aBt {s:St} (q:Nat) {x y:D} (hq:s.o[q]?=some (.box x)) (hy:x.unown=y):eN s ⟨aY q y s.e,s.o.set q .dead⟩:=hy ▸ gG q hq
theorem aF5 (o:Off) (i:Nat) (x:Cs) (ho:cM o=true) (hr:o.cs[i]?=some x):Fn prog 79 [o.s,.int .i64 i] (fun rs=>rs=[(jM o i x).w,.bool (cY o x && cM (jM o i x))]):=by
 have ho0:=jA ho
 have hp:=dG ho
 have hO:=jV o ho0
 have hno:o.w.noOwn=false:=by simp [Off.w,cG,D.noOwn]
 have hwV:o.w.isV=true:=rfl
 have hwS:o.w.size=5:=rfl
 have h0:(0:Int)<=(i:Int):=by omega
 refine fK (ps:=[[1,1,1,0,1,0,1,1,1,1,0],[1,1,0],[1,0]]) (fn:=f79) (by exact func79) c79 r79 (n:=82) (by rfl) (rv:=[.cell 4 27,.tmp 5]) (by rfl) (by simp) ?_
 unfold m79
 try simp only [wQ]
 simp only [dP,eR]
 repeat' (first|(simp only [Off.s_noOwn,Off.s_isV,Off.s_size,hno,hwV,hwS,↓b9,aV,↓wA,↓wC,wB,aY,aW,reduceEqDiff,reduceAdd,reduceSub,reduceIte,reduceCtorEq,Nat.reduceBEq,reduceLT,bU])|((first|apply aO|apply aQ|apply aK)<;>intro h<;>try simp only [h]))
 refine bR (gG 0 rfl) ?_
 simp only [aY,aW,Off.s_unown,↓wA,↓wC,wB,aY,aW,reduceEqDiff,reduceAdd,reduceSub,reduceIte,reduceCtorEq,Nat.reduceBEq,reduceLT,bU]
 have hfa:∀ K:SV->Prop,bY 1 1 (.d (.ptr o.s)) K=K (.d (.ptr (.sl false 4 (dl Cs.s o.cs)))):=fun K=>by simp [Off.s,cG,bY,D.pre,D.nth,D.size]
 simp only [hfa,hr,h0,a7,bW,Int.toNat_natCast,Option.map_some,bB,Off.s_noOwn,Off.s_isV,Off.s_size,hno,hwV,hwS,↓b9,↓gH,aV,Cs.s_isV,Cs.s_size,↓wA,↓wC,wB,aY,aW,reduceEqDiff,reduceAdd,reduceSub,reduceIte,reduceCtorEq,Nat.reduceBEq,reduceLT,bU]
 refine aJt (fun s=>eN s (xI o x i 2 [])\/eN s (xI o x i 3 [.dead])\/eN s (xI o x i 4 [.dead,.dead])) ?_ ?_
 ·repeat' (first
   |(with_reducible refine And.intro ?_ ?_)
   |(refine aZ hO (by simp [cA,cW,Off.s_unown]) rfl ?_)
   |(refine a6 hO (by simp [cA,cW,Off.s_unown]) rfl ?_)
   |(simp only [hno,hwV,hwS,Off.s_noOwn,Off.s_isV,Off.s_size,Cs.s_noOwn,Cs.s_isV,Cs.s_size,aV,↓wA,↓wC,wB,aY,aW,reduceEqDiff,reduceAdd,reduceSub,reduceIte,reduceCtorEq,Nat.reduceBEq,reduceLT,bU]))
  all_goals (first
   | exact .inl ((aBt 3 rfl (Cs.s_unown x)).trans (bF _ rfl ⟨⟨rfl,rfl⟩,⟨rfl,rfl⟩,⟨rfl,rfl⟩,⟨rfl,rfl⟩,⟨rfl,rfl⟩,trivial⟩))
   | exact .inl ((aBt 4 rfl (Cs.s_unown x)).trans (bF _ rfl ⟨⟨rfl,rfl⟩,⟨rfl,rfl⟩,⟨rfl,rfl⟩,⟨rfl,rfl⟩,⟨rfl,rfl⟩,trivial⟩))
   | exact .inr (.inl ((aBt 2 rfl (Cs.s_unown x)).trans (bF _ rfl ⟨⟨rfl,rfl⟩,⟨rfl,rfl⟩,⟨rfl,rfl⟩,⟨rfl,rfl⟩,⟨rfl,rfl⟩,trivial⟩)))
   | exact .inr (.inl ((aBt 4 rfl (Cs.s_unown x)).trans (bF _ rfl ⟨⟨rfl,rfl⟩,⟨rfl,rfl⟩,⟨rfl,rfl⟩,⟨rfl,rfl⟩,⟨rfl,rfl⟩,trivial⟩)))
   | exact .inr (.inr ((aBt 2 rfl (Cs.s_unown x)).trans (bF _ rfl ⟨⟨rfl,rfl⟩,⟨rfl,rfl⟩,⟨rfl,rfl⟩,⟨rfl,rfl⟩,⟨rfl,rfl⟩,trivial⟩)))
   | exact .inr (.inr ((aBt 3 rfl (Cs.s_unown x)).trans (bF _ rfl ⟨⟨rfl,rfl⟩,⟨rfl,rfl⟩,⟨rfl,rfl⟩,⟨rfl,rfl⟩,⟨rfl,rfl⟩,trivial⟩))))
 ·have hil:=bC hr
  have hfx:∀ K:SV->Prop,bY 1 1 (.d (.ptr x.s)) K=K (.d (.ptr (.int .i64 x.a))):=fun K=>by simp [Cs.s,Cs.p,bY,D.pre,D.nth,D.size]
  have hf2:∀ K:SV->Prop,bY 2 2 (.d (.ptr o.s)) K=K (.d (.ptr (.int .i64 o.kept))):=fun K=>by simp [Off.s,cG,bY,D.pre,D.nth,D.size]
  have hf3:∀ K:SV->Prop,bY 3 3 (.d (.ptr o.s)) K=K (.d (.ptr (.int .i64 o.moved))):=fun K=>by simp [Off.s,cG,bY,D.pre,D.nth,D.size]
  have hf0:∀ K:SV->Prop,bY 0 0 (.d (.ptr o.s)) K=K (.d (.ptr (.int .i64 o.day))):=fun K=>by simp [Off.s,cG,bY,D.pre,D.nth,D.size]
  have hx2:∀ K:SV->Prop,bY 2 2 (.d (.ptr x.s)) K=K (.d (.ptr (.int .i64 x.d))):=fun K=>by simp [Cs.s,Cs.p,bY,D.pre,D.nth,D.size]
  have hx0:∀ K:SV->Prop,bY 0 0 (.d (.ptr x.s)) K=K (.d (.ptr (.int .i64 x.i))):=fun K=>by simp [Cs.s,Cs.p,bY,D.pre,D.nth,D.size]
  have hx3:∀ K:SV->Prop,bY 3 3 (.d (.ptr x.s)) K=K (.d (.ptr (.sl false 1 (dl iD x.h)))):=fun K=>by simp [Cs.s,Cs.p,bY,D.pre,D.nth,D.size]
  have hs1:(dl Cs.s o.cs).sub 0 i=dl Cs.s (o.cs.take i):=by rw [oC]; rfl
  have hs2:(dl Cs.s o.cs).sub (i + 1) o.cs.length=dl Cs.s (o.cs.drop (i + 1)):=by rw [oC,List.take_length]
  have htn:((i:Int) + 1).toNat=i + 1:=by omega
  have happ:(dl Cs.s (o.cs.take i)).app (dl Cs.s (o.cs.drop (i + 1)))=dl Cs.s (o.cs.eraseIdx i):=by rw [tX,List.eraseIdx_eq_take_drop_succ]
  have hl1:(o.cs.take i).length=i:=by simp; omega
  have hl2:(o.cs.drop (i + 1)).length=o.cs.length - (i + 1):=by simp
  have hok:(jM o i x).ok0:=by
   have hle:rS (o.cs.eraseIdx i):=⟨by have:=List.length_eraseIdx_le o.cs i; omega,fun y hy=>ho0.1.2 y (List.mem_of_mem_eraseIdx hy)⟩
   unfold jM
   split
   ·exact ⟨hle,ho0.2⟩
   ·split
    ·exact ⟨hle,ho0.2⟩
    ·refine ⟨hle,by simp; omega,fun s hs=>?_⟩
     have hxc:=dX (hp.2.2.2.2.2.2.2.2.2 x (List.mem_of_getElem? hr))
     rcases List.mem_append.1 hs with hs|hs
     ·exact ho0.2.2 s hs
     ·rw [List.mem_singleton.1 hs]
      have h1:=fA x.i (by simp only [cV]; omega)
      have h2:=fA o.day (by simp only [cV]; omega)
      simp [kM]; omega
  have hG:=eW (jM o i x) hok
  cases k1:decide (x.a=1) with
  | true =>
   have ha:=k1
   have k2:=k1
   have hu:(D.st (.cons (.int .i64 o.day) (.cons (.sl true 4 (dl Cs.s (o.cs.eraseIdx i))) (.cons (.int .i64 (o.kept + 1)) (.cons (.int .i64 o.moved) (.cons (.sl true 1 (dl D.str o.led)) .nil)))))).unown=(jM o i x).s:=by
    unfold jM
    rw [if_pos (of_decide_eq_true k1)]
    simp [Off.s,cG,D.unown,eM,jG]
   have hwE:(D.st (.cons (.int .i64 o.day) (.cons (.sl true 4 (dl Cs.s (o.cs.eraseIdx i))) (.cons (.int .i64 (o.kept + 1)) (.cons (.int .i64 o.moved) (.cons (.sl true 1 (dl D.str o.led)) .nil))))))=(jM o i x).w:=by
    unfold jM
    rw [if_pos (of_decide_eq_true k1)]
    rfl
   rintro s' (h|h|h)
   ·refine ⟨_,h,?_⟩
    simp only [xI,List.cons_append,List.nil_append,↓wA,↓wC,wB,aY,aW,reduceEqDiff,reduceAdd,reduceSub,reduceIte,reduceCtorEq,Nat.reduceBEq,reduceLT,bU]
    refine bR (freeze 2 none [1] (x:=.sl true 4 (dl Cs.s o.cs)) rfl rfl rfl) ?_
    simp only [cX,cG,D.unown,eM,↓wA,↓wC,wB,aY,aW,reduceEqDiff,reduceAdd,reduceSub,reduceIte,reduceCtorEq,Nat.reduceBEq,reduceLT,bU]
    cases hdd:decide (x.d<=o.day) with
    | true =>
     have hdb:cY o x=true:=by simp [cY,of_decide_eq_true hdd,of_decide_eq_true k1]
     repeat' (first|(simp only [aV,cC,a7,bB,bE,hfx,hf0,hf2,hf3,hx0,hx2,hx3,Int.toNat_natCast,htn,hs1,hs2,happ,hl1,hl2,ha,hdd,k1,k2,↓wA,↓wC,wB,aY,aW,reduceEqDiff,reduceAdd,reduceSub,reduceIte,reduceCtorEq,Nat.reduceBEq,reduceLT,bU])|(refine cT ?_)|(with_reducible refine And.intro ?_ ?_)|(with_reducible refine bK ?_ ?_; focus omega)|(with_reducible refine bA ?_ ?_; focus (simp only [cV]; omega))|(refine aZ hG (congrArg (fun d:D=>some [d]) hu) rfl ?_)|(refine a6 hG (congrArg (fun d:D=>some [d]) hu) rfl ?_)|((first|apply aO|apply aQ|apply aK)<;>intro h<;>try simp only [h]))
     all_goals (refine bK rfl ?_; rw [hwE,hdb,Bool.true_and])
    | false =>
     have hdb:cY o x=false:=by simp [cY,of_decide_eq_false hdd]
     repeat' (first|(simp only [aV,cC,a7,bB,bE,hfx,hf0,hf2,hf3,hx0,hx2,hx3,Int.toNat_natCast,htn,hs1,hs2,happ,hl1,hl2,ha,hdd,k1,k2,↓wA,↓wC,wB,aY,aW,reduceEqDiff,reduceAdd,reduceSub,reduceIte,reduceCtorEq,Nat.reduceBEq,reduceLT,bU])|(refine cT ?_)|(with_reducible refine And.intro ?_ ?_)|(with_reducible refine bK ?_ ?_; focus omega)|(with_reducible refine bA ?_ ?_; focus (simp only [cV]; omega))|(refine aZ hG (congrArg (fun d:D=>some [d]) hu) rfl ?_)|(refine a6 hG (congrArg (fun d:D=>some [d]) hu) rfl ?_)|((first|apply aO|apply aQ|apply aK)<;>intro h<;>try simp only [h]))
     all_goals (refine bK rfl ?_; rw [hwE,hdb,Bool.false_and])
   ·refine ⟨_,h,?_⟩
    simp only [xI,List.cons_append,List.nil_append,↓wA,↓wC,wB,aY,aW,reduceEqDiff,reduceAdd,reduceSub,reduceIte,reduceCtorEq,Nat.reduceBEq,reduceLT,bU]
    refine bR (freeze 3 none [1] (x:=.sl true 4 (dl Cs.s o.cs)) rfl rfl rfl) ?_
    simp only [cX,cG,D.unown,eM,↓wA,↓wC,wB,aY,aW,reduceEqDiff,reduceAdd,reduceSub,reduceIte,reduceCtorEq,Nat.reduceBEq,reduceLT,bU]
    cases hdd:decide (x.d<=o.day) with
    | true =>
     have hdb:cY o x=true:=by simp [cY,of_decide_eq_true hdd,of_decide_eq_true k1]
     repeat' (first|(simp only [aV,cC,a7,bB,bE,hfx,hf0,hf2,hf3,hx0,hx2,hx3,Int.toNat_natCast,htn,hs1,hs2,happ,hl1,hl2,ha,hdd,k1,k2,↓wA,↓wC,wB,aY,aW,reduceEqDiff,reduceAdd,reduceSub,reduceIte,reduceCtorEq,Nat.reduceBEq,reduceLT,bU])|(refine cT ?_)|(with_reducible refine And.intro ?_ ?_)|(with_reducible refine bK ?_ ?_; focus omega)|(with_reducible refine bA ?_ ?_; focus (simp only [cV]; omega))|(refine aZ hG (congrArg (fun d:D=>some [d]) hu) rfl ?_)|(refine a6 hG (congrArg (fun d:D=>some [d]) hu) rfl ?_)|((first|apply aO|apply aQ|apply aK)<;>intro h<;>try simp only [h]))
     all_goals (refine bK rfl ?_; rw [hwE,hdb,Bool.true_and])
    | false =>
     have hdb:cY o x=false:=by simp [cY,of_decide_eq_false hdd]
     repeat' (first|(simp only [aV,cC,a7,bB,bE,hfx,hf0,hf2,hf3,hx0,hx2,hx3,Int.toNat_natCast,htn,hs1,hs2,happ,hl1,hl2,ha,hdd,k1,k2,↓wA,↓wC,wB,aY,aW,reduceEqDiff,reduceAdd,reduceSub,reduceIte,reduceCtorEq,Nat.reduceBEq,reduceLT,bU])|(refine cT ?_)|(with_reducible refine And.intro ?_ ?_)|(with_reducible refine bK ?_ ?_; focus omega)|(with_reducible refine bA ?_ ?_; focus (simp only [cV]; omega))|(refine aZ hG (congrArg (fun d:D=>some [d]) hu) rfl ?_)|(refine a6 hG (congrArg (fun d:D=>some [d]) hu) rfl ?_)|((first|apply aO|apply aQ|apply aK)<;>intro h<;>try simp only [h]))
     all_goals (refine bK rfl ?_; rw [hwE,hdb,Bool.false_and])
   ·refine ⟨_,h,?_⟩
    simp only [xI,List.cons_append,List.nil_append,↓wA,↓wC,wB,aY,aW,reduceEqDiff,reduceAdd,reduceSub,reduceIte,reduceCtorEq,Nat.reduceBEq,reduceLT,bU]
    refine bR (freeze 4 none [1] (x:=.sl true 4 (dl Cs.s o.cs)) rfl rfl rfl) ?_
    simp only [cX,cG,D.unown,eM,↓wA,↓wC,wB,aY,aW,reduceEqDiff,reduceAdd,reduceSub,reduceIte,reduceCtorEq,Nat.reduceBEq,reduceLT,bU]
    cases hdd:decide (x.d<=o.day) with
    | true =>
     have hdb:cY o x=true:=by simp [cY,of_decide_eq_true hdd,of_decide_eq_true k1]
     repeat' (first|(simp only [aV,cC,a7,bB,bE,hfx,hf0,hf2,hf3,hx0,hx2,hx3,Int.toNat_natCast,htn,hs1,hs2,happ,hl1,hl2,ha,hdd,k1,k2,↓wA,↓wC,wB,aY,aW,reduceEqDiff,reduceAdd,reduceSub,reduceIte,reduceCtorEq,Nat.reduceBEq,reduceLT,bU])|(refine cT ?_)|(with_reducible refine And.intro ?_ ?_)|(with_reducible refine bK ?_ ?_; focus omega)|(with_reducible refine bA ?_ ?_; focus (simp only [cV]; omega))|(refine aZ hG (congrArg (fun d:D=>some [d]) hu) rfl ?_)|(refine a6 hG (congrArg (fun d:D=>some [d]) hu) rfl ?_)|((first|apply aO|apply aQ|apply aK)<;>intro h<;>try simp only [h]))
     all_goals (refine bK rfl ?_; rw [hwE,hdb,Bool.true_and])
    | false =>
     have hdb:cY o x=false:=by simp [cY,of_decide_eq_false hdd]
     repeat' (first|(simp only [aV,cC,a7,bB,bE,hfx,hf0,hf2,hf3,hx0,hx2,hx3,Int.toNat_natCast,htn,hs1,hs2,happ,hl1,hl2,ha,hdd,k1,k2,↓wA,↓wC,wB,aY,aW,reduceEqDiff,reduceAdd,reduceSub,reduceIte,reduceCtorEq,Nat.reduceBEq,reduceLT,bU])|(refine cT ?_)|(with_reducible refine And.intro ?_ ?_)|(with_reducible refine bK ?_ ?_; focus omega)|(with_reducible refine bA ?_ ?_; focus (simp only [cV]; omega))|(refine aZ hG (congrArg (fun d:D=>some [d]) hu) rfl ?_)|(refine a6 hG (congrArg (fun d:D=>some [d]) hu) rfl ?_)|((first|apply aO|apply aQ|apply aK)<;>intro h<;>try simp only [h]))
     all_goals (refine bK rfl ?_; rw [hwE,hdb,Bool.false_and])
  | false =>
   have k1':=of_decide_eq_false k1
   cases k2:decide (x.a=2) with
   | true =>
    have ha:=k2
    have hu:(D.st (.cons (.int .i64 o.day) (.cons (.sl true 4 (dl Cs.s (o.cs.eraseIdx i))) (.cons (.int .i64 o.kept) (.cons (.int .i64 (o.moved + 1)) (.cons (.sl true 1 (dl D.str o.led)) .nil)))))).unown=(jM o i x).s:=by
     unfold jM
     rw [if_neg k1',if_pos (of_decide_eq_true k2)]
     simp [Off.s,cG,D.unown,eM,jG]
    have hwE:(D.st (.cons (.int .i64 o.day) (.cons (.sl true 4 (dl Cs.s (o.cs.eraseIdx i))) (.cons (.int .i64 o.kept) (.cons (.int .i64 (o.moved + 1)) (.cons (.sl true 1 (dl D.str o.led)) .nil))))))=(jM o i x).w:=by
     unfold jM
     rw [if_neg k1',if_pos (of_decide_eq_true k2)]
     rfl
    rintro s' (h|h|h)
    ·refine ⟨_,h,?_⟩
     simp only [xI,List.cons_append,List.nil_append,↓wA,↓wC,wB,aY,aW,reduceEqDiff,reduceAdd,reduceSub,reduceIte,reduceCtorEq,Nat.reduceBEq,reduceLT,bU]
     refine bR (freeze 2 none [1] (x:=.sl true 4 (dl Cs.s o.cs)) rfl rfl rfl) ?_
     simp only [cX,cG,D.unown,eM,↓wA,↓wC,wB,aY,aW,reduceEqDiff,reduceAdd,reduceSub,reduceIte,reduceCtorEq,Nat.reduceBEq,reduceLT,bU]
     cases hdd:decide (x.d<=o.day) with
     | true =>
      have hdb:cY o x=true:=by simp [cY,of_decide_eq_true hdd,of_decide_eq_true k2]
      repeat' (first|(simp only [aV,cC,a7,bB,bE,hfx,hf0,hf2,hf3,hx0,hx2,hx3,Int.toNat_natCast,htn,hs1,hs2,happ,hl1,hl2,ha,hdd,k1,k2,↓wA,↓wC,wB,aY,aW,reduceEqDiff,reduceAdd,reduceSub,reduceIte,reduceCtorEq,Nat.reduceBEq,reduceLT,bU])|(refine cT ?_)|(with_reducible refine And.intro ?_ ?_)|(with_reducible refine bK ?_ ?_; focus omega)|(with_reducible refine bA ?_ ?_; focus (simp only [cV]; omega))|(refine aZ hG (congrArg (fun d:D=>some [d]) hu) rfl ?_)|(refine a6 hG (congrArg (fun d:D=>some [d]) hu) rfl ?_)|((first|apply aO|apply aQ|apply aK)<;>intro h<;>try simp only [h]))
      all_goals (refine bK rfl ?_; rw [hwE,hdb,Bool.true_and])
     | false =>
      have hdb:cY o x=false:=by simp [cY,of_decide_eq_false hdd]
      repeat' (first|(simp only [aV,cC,a7,bB,bE,hfx,hf0,hf2,hf3,hx0,hx2,hx3,Int.toNat_natCast,htn,hs1,hs2,happ,hl1,hl2,ha,hdd,k1,k2,↓wA,↓wC,wB,aY,aW,reduceEqDiff,reduceAdd,reduceSub,reduceIte,reduceCtorEq,Nat.reduceBEq,reduceLT,bU])|(refine cT ?_)|(with_reducible refine And.intro ?_ ?_)|(with_reducible refine bK ?_ ?_; focus omega)|(with_reducible refine bA ?_ ?_; focus (simp only [cV]; omega))|(refine aZ hG (congrArg (fun d:D=>some [d]) hu) rfl ?_)|(refine a6 hG (congrArg (fun d:D=>some [d]) hu) rfl ?_)|((first|apply aO|apply aQ|apply aK)<;>intro h<;>try simp only [h]))
      all_goals (refine bK rfl ?_; rw [hwE,hdb,Bool.false_and])
    ·refine ⟨_,h,?_⟩
     simp only [xI,List.cons_append,List.nil_append,↓wA,↓wC,wB,aY,aW,reduceEqDiff,reduceAdd,reduceSub,reduceIte,reduceCtorEq,Nat.reduceBEq,reduceLT,bU]
     refine bR (freeze 3 none [1] (x:=.sl true 4 (dl Cs.s o.cs)) rfl rfl rfl) ?_
     simp only [cX,cG,D.unown,eM,↓wA,↓wC,wB,aY,aW,reduceEqDiff,reduceAdd,reduceSub,reduceIte,reduceCtorEq,Nat.reduceBEq,reduceLT,bU]
     cases hdd:decide (x.d<=o.day) with
     | true =>
      have hdb:cY o x=true:=by simp [cY,of_decide_eq_true hdd,of_decide_eq_true k2]
      repeat' (first|(simp only [aV,cC,a7,bB,bE,hfx,hf0,hf2,hf3,hx0,hx2,hx3,Int.toNat_natCast,htn,hs1,hs2,happ,hl1,hl2,ha,hdd,k1,k2,↓wA,↓wC,wB,aY,aW,reduceEqDiff,reduceAdd,reduceSub,reduceIte,reduceCtorEq,Nat.reduceBEq,reduceLT,bU])|(refine cT ?_)|(with_reducible refine And.intro ?_ ?_)|(with_reducible refine bK ?_ ?_; focus omega)|(with_reducible refine bA ?_ ?_; focus (simp only [cV]; omega))|(refine aZ hG (congrArg (fun d:D=>some [d]) hu) rfl ?_)|(refine a6 hG (congrArg (fun d:D=>some [d]) hu) rfl ?_)|((first|apply aO|apply aQ|apply aK)<;>intro h<;>try simp only [h]))
      all_goals (refine bK rfl ?_; rw [hwE,hdb,Bool.true_and])
     | false =>
      have hdb:cY o x=false:=by simp [cY,of_decide_eq_false hdd]
      repeat' (first|(simp only [aV,cC,a7,bB,bE,hfx,hf0,hf2,hf3,hx0,hx2,hx3,Int.toNat_natCast,htn,hs1,hs2,happ,hl1,hl2,ha,hdd,k1,k2,↓wA,↓wC,wB,aY,aW,reduceEqDiff,reduceAdd,reduceSub,reduceIte,reduceCtorEq,Nat.reduceBEq,reduceLT,bU])|(refine cT ?_)|(with_reducible refine And.intro ?_ ?_)|(with_reducible refine bK ?_ ?_; focus omega)|(with_reducible refine bA ?_ ?_; focus (simp only [cV]; omega))|(refine aZ hG (congrArg (fun d:D=>some [d]) hu) rfl ?_)|(refine a6 hG (congrArg (fun d:D=>some [d]) hu) rfl ?_)|((first|apply aO|apply aQ|apply aK)<;>intro h<;>try simp only [h]))
      all_goals (refine bK rfl ?_; rw [hwE,hdb,Bool.false_and])
    ·refine ⟨_,h,?_⟩
     simp only [xI,List.cons_append,List.nil_append,↓wA,↓wC,wB,aY,aW,reduceEqDiff,reduceAdd,reduceSub,reduceIte,reduceCtorEq,Nat.reduceBEq,reduceLT,bU]
     refine bR (freeze 4 none [1] (x:=.sl true 4 (dl Cs.s o.cs)) rfl rfl rfl) ?_
     simp only [cX,cG,D.unown,eM,↓wA,↓wC,wB,aY,aW,reduceEqDiff,reduceAdd,reduceSub,reduceIte,reduceCtorEq,Nat.reduceBEq,reduceLT,bU]
     cases hdd:decide (x.d<=o.day) with
     | true =>
      have hdb:cY o x=true:=by simp [cY,of_decide_eq_true hdd,of_decide_eq_true k2]
      repeat' (first|(simp only [aV,cC,a7,bB,bE,hfx,hf0,hf2,hf3,hx0,hx2,hx3,Int.toNat_natCast,htn,hs1,hs2,happ,hl1,hl2,ha,hdd,k1,k2,↓wA,↓wC,wB,aY,aW,reduceEqDiff,reduceAdd,reduceSub,reduceIte,reduceCtorEq,Nat.reduceBEq,reduceLT,bU])|(refine cT ?_)|(with_reducible refine And.intro ?_ ?_)|(with_reducible refine bK ?_ ?_; focus omega)|(with_reducible refine bA ?_ ?_; focus (simp only [cV]; omega))|(refine aZ hG (congrArg (fun d:D=>some [d]) hu) rfl ?_)|(refine a6 hG (congrArg (fun d:D=>some [d]) hu) rfl ?_)|((first|apply aO|apply aQ|apply aK)<;>intro h<;>try simp only [h]))
      all_goals (refine bK rfl ?_; rw [hwE,hdb,Bool.true_and])
     | false =>
      have hdb:cY o x=false:=by simp [cY,of_decide_eq_false hdd]
      repeat' (first|(simp only [aV,cC,a7,bB,bE,hfx,hf0,hf2,hf3,hx0,hx2,hx3,Int.toNat_natCast,htn,hs1,hs2,happ,hl1,hl2,ha,hdd,k1,k2,↓wA,↓wC,wB,aY,aW,reduceEqDiff,reduceAdd,reduceSub,reduceIte,reduceCtorEq,Nat.reduceBEq,reduceLT,bU])|(refine cT ?_)|(with_reducible refine And.intro ?_ ?_)|(with_reducible refine bK ?_ ?_; focus omega)|(with_reducible refine bA ?_ ?_; focus (simp only [cV]; omega))|(refine aZ hG (congrArg (fun d:D=>some [d]) hu) rfl ?_)|(refine a6 hG (congrArg (fun d:D=>some [d]) hu) rfl ?_)|((first|apply aO|apply aQ|apply aK)<;>intro h<;>try simp only [h]))
      all_goals (refine bK rfl ?_; rw [hwE,hdb,Bool.false_and])
   | false =>
    have k2':=of_decide_eq_false k2
    have hxc:=dX (hp.2.2.2.2.2.2.2.2.2 x (List.mem_of_getElem? hr))
    have hN1:=l7 x.i (by omega) (by simp only [cV]; omega)
    have hN2:=l7 o.day (by omega) (by simp only [cV]; omega)
    have hI1:=fA x.i (by simp only [cV]; omega)
    have hI2:=fA o.day (by simp only [cV]; omega)
    have hE:114 :: (Lib.itoa x.i ++ 32 :: 100 :: Lib.itoa o.day)=kM x.i o.day:=rfl
    have hu:(D.st (.cons (.int .i64 o.day) (.cons (.sl true 4 (dl Cs.s (o.cs.eraseIdx i))) (.cons (.int .i64 o.kept) (.cons (.int .i64 o.moved) (.cons (.sl true 1 (dl D.str (o.led ++ [kM x.i o.day]))) .nil)))))).unown=(jM o i x).s:=by
     unfold jM
     rw [if_neg k1',if_neg k2']
     simp [Off.s,cG,D.unown,eM,jG]
    have hwE:(D.st (.cons (.int .i64 o.day) (.cons (.sl true 4 (dl Cs.s (o.cs.eraseIdx i))) (.cons (.int .i64 o.kept) (.cons (.int .i64 o.moved) (.cons (.sl true 1 (dl D.str (o.led ++ [kM x.i o.day]))) .nil))))))=(jM o i x).w:=by
     unfold jM
     rw [if_neg k1',if_neg k2']
     rfl
    rintro s' (h|h|h)
    ·refine ⟨_,h,?_⟩
     simp only [xI,List.cons_append,List.nil_append,↓wA,↓wC,wB,aY,aW,reduceEqDiff,reduceAdd,reduceSub,reduceIte,reduceCtorEq,Nat.reduceBEq,reduceLT,bU]
     refine bR (freeze 2 none [1] (x:=.sl true 4 (dl Cs.s o.cs)) rfl rfl rfl) ?_
     simp only [cX,cG,D.unown,eM,↓wA,↓wC,wB,aY,aW,reduceEqDiff,reduceAdd,reduceSub,reduceIte,reduceCtorEq,Nat.reduceBEq,reduceLT,bU]
     repeat' (first|(simp only [aV,cC,a7,bB,bE,hfx,hf0,hf2,hf3,hx0,hx2,hx3,Int.toNat_natCast,htn,hs1,hs2,happ,hl1,hl2,k1,k2,↓wA,↓wC,wB,aY,aW,reduceEqDiff,reduceAdd,reduceSub,reduceIte,reduceCtorEq,Nat.reduceBEq,reduceLT,bU])|(refine cT ?_)|(with_reducible refine bK ?_ ?_; focus omega)|(with_reducible refine bA ?_ ?_; focus (simp only [cV]; omega))|((first|apply aO|apply aQ|apply aK)<;>intro h<;>try simp only [h]))
     refine dQ _ (eA 2 none [4] (es:=1) (xs:=dl D.str o.led) rfl rfl) fun v2=>?_
     simp only [cX,↓wA,↓wC,wB,aY,aW,reduceEqDiff,reduceAdd,reduceSub,reduceIte,reduceCtorEq,Nat.reduceBEq,reduceLT,bU]
     have happ2:(dl D.str o.led).app (D.cons (.str (kM x.i o.day)) .nil)=dl D.str (o.led ++ [kM x.i o.day]):=iG (f:=D.str) o.led _
     cases hdd:decide (x.d<=o.day) with
     | true =>
      have hdb:cY o x=decide (x.h.length=0):=by simp [cY,of_decide_eq_true hdd,k1',k2']
      cases hh:decide ((x.h.length:Int)=0) with
      | true =>
       have hdb2:cY o x=true:=by rw [hdb]; have:=of_decide_eq_true hh; exact decide_eq_true (by omega)
       repeat' (first|(simp only [aV,cC,a7,bB,bE,bJ,hfx,hf0,hf2,hf3,hx0,hx2,hx3,k1,k2,hdd,hh,hE,happ2,↓wA,↓wC,wB,aY,aW,reduceEqDiff,reduceAdd,reduceSub,reduceIte,reduceCtorEq,Nat.reduceBEq,reduceLT,bU])|(refine aZ (hN1) rfl rfl ?_)|(refine a6 (hN1) rfl rfl ?_)|(refine aZ (hN2) rfl rfl ?_)|(refine a6 (hN2) rfl rfl ?_)|(refine cT ?_)|(with_reducible refine And.intro ?_ ?_)|(with_reducible refine bK ?_ ?_; focus omega)|(with_reducible refine bK ?_ ?_; focus (simp; done))|(with_reducible refine bA ?_ ?_; focus (simp only [cV]; omega))|(refine aZ hG (congrArg (fun d:D=>some [d]) hu) rfl ?_)|(refine a6 hG (congrArg (fun d:D=>some [d]) hu) rfl ?_)|((first|apply aO|apply aQ|apply aK)<;>intro h<;>try simp only [h]))
       all_goals (refine bK rfl ?_; rw [hwE,hdb2,Bool.true_and])
      | false =>
       have hdb2:cY o x=false:=by rw [hdb]; have:=of_decide_eq_false hh; exact decide_eq_false (by omega)
       repeat' (first|(simp only [aV,cC,a7,bB,bE,bJ,hfx,hf0,hf2,hf3,hx0,hx2,hx3,k1,k2,hdd,hh,hE,happ2,↓wA,↓wC,wB,aY,aW,reduceEqDiff,reduceAdd,reduceSub,reduceIte,reduceCtorEq,Nat.reduceBEq,reduceLT,bU])|(refine aZ (hN1) rfl rfl ?_)|(refine a6 (hN1) rfl rfl ?_)|(refine aZ (hN2) rfl rfl ?_)|(refine a6 (hN2) rfl rfl ?_)|(refine cT ?_)|(with_reducible refine And.intro ?_ ?_)|(with_reducible refine bK ?_ ?_; focus omega)|(with_reducible refine bK ?_ ?_; focus (simp; done))|(with_reducible refine bA ?_ ?_; focus (simp only [cV]; omega))|(refine aZ hG (congrArg (fun d:D=>some [d]) hu) rfl ?_)|(refine a6 hG (congrArg (fun d:D=>some [d]) hu) rfl ?_)|((first|apply aO|apply aQ|apply aK)<;>intro h<;>try simp only [h]))
       all_goals (refine bK rfl ?_; rw [hwE,hdb2,Bool.false_and])
     | false =>
      have hdb2:cY o x=false:=by simp [cY,of_decide_eq_false hdd]
      repeat' (first|(simp only [aV,cC,a7,bB,bE,bJ,hfx,hf0,hf2,hf3,hx0,hx2,hx3,k1,k2,hdd,hE,happ2,↓wA,↓wC,wB,aY,aW,reduceEqDiff,reduceAdd,reduceSub,reduceIte,reduceCtorEq,Nat.reduceBEq,reduceLT,bU])|(refine aZ (hN1) rfl rfl ?_)|(refine a6 (hN1) rfl rfl ?_)|(refine aZ (hN2) rfl rfl ?_)|(refine a6 (hN2) rfl rfl ?_)|(refine cT ?_)|(with_reducible refine And.intro ?_ ?_)|(with_reducible refine bK ?_ ?_; focus omega)|(with_reducible refine bK ?_ ?_; focus (simp; done))|(with_reducible refine bA ?_ ?_; focus (simp only [cV]; omega))|(refine aZ hG (congrArg (fun d:D=>some [d]) hu) rfl ?_)|(refine a6 hG (congrArg (fun d:D=>some [d]) hu) rfl ?_)|((first|apply aO|apply aQ|apply aK)<;>intro h<;>try simp only [h]))
      all_goals (refine bK rfl ?_; rw [hwE,hdb2,Bool.false_and])
    ·refine ⟨_,h,?_⟩
     simp only [xI,List.cons_append,List.nil_append,↓wA,↓wC,wB,aY,aW,reduceEqDiff,reduceAdd,reduceSub,reduceIte,reduceCtorEq,Nat.reduceBEq,reduceLT,bU]
     refine bR (freeze 3 none [1] (x:=.sl true 4 (dl Cs.s o.cs)) rfl rfl rfl) ?_
     simp only [cX,cG,D.unown,eM,↓wA,↓wC,wB,aY,aW,reduceEqDiff,reduceAdd,reduceSub,reduceIte,reduceCtorEq,Nat.reduceBEq,reduceLT,bU]
     repeat' (first|(simp only [aV,cC,a7,bB,bE,hfx,hf0,hf2,hf3,hx0,hx2,hx3,Int.toNat_natCast,htn,hs1,hs2,happ,hl1,hl2,k1,k2,↓wA,↓wC,wB,aY,aW,reduceEqDiff,reduceAdd,reduceSub,reduceIte,reduceCtorEq,Nat.reduceBEq,reduceLT,bU])|(refine cT ?_)|(with_reducible refine bK ?_ ?_; focus omega)|(with_reducible refine bA ?_ ?_; focus (simp only [cV]; omega))|((first|apply aO|apply aQ|apply aK)<;>intro h<;>try simp only [h]))
     refine dQ _ (eA 3 none [4] (es:=1) (xs:=dl D.str o.led) rfl rfl) fun v2=>?_
     simp only [cX,↓wA,↓wC,wB,aY,aW,reduceEqDiff,reduceAdd,reduceSub,reduceIte,reduceCtorEq,Nat.reduceBEq,reduceLT,bU]
     have happ2:(dl D.str o.led).app (D.cons (.str (kM x.i o.day)) .nil)=dl D.str (o.led ++ [kM x.i o.day]):=iG (f:=D.str) o.led _
     cases hdd:decide (x.d<=o.day) with
     | true =>
      have hdb:cY o x=decide (x.h.length=0):=by simp [cY,of_decide_eq_true hdd,k1',k2']
      cases hh:decide ((x.h.length:Int)=0) with
      | true =>
       have hdb2:cY o x=true:=by rw [hdb]; have:=of_decide_eq_true hh; exact decide_eq_true (by omega)
       repeat' (first|(simp only [aV,cC,a7,bB,bE,bJ,hfx,hf0,hf2,hf3,hx0,hx2,hx3,k1,k2,hdd,hh,hE,happ2,↓wA,↓wC,wB,aY,aW,reduceEqDiff,reduceAdd,reduceSub,reduceIte,reduceCtorEq,Nat.reduceBEq,reduceLT,bU])|(refine aZ (hN1) rfl rfl ?_)|(refine a6 (hN1) rfl rfl ?_)|(refine aZ (hN2) rfl rfl ?_)|(refine a6 (hN2) rfl rfl ?_)|(refine cT ?_)|(with_reducible refine And.intro ?_ ?_)|(with_reducible refine bK ?_ ?_; focus omega)|(with_reducible refine bK ?_ ?_; focus (simp; done))|(with_reducible refine bA ?_ ?_; focus (simp only [cV]; omega))|(refine aZ hG (congrArg (fun d:D=>some [d]) hu) rfl ?_)|(refine a6 hG (congrArg (fun d:D=>some [d]) hu) rfl ?_)|((first|apply aO|apply aQ|apply aK)<;>intro h<;>try simp only [h]))
       all_goals (refine bK rfl ?_; rw [hwE,hdb2,Bool.true_and])
      | false =>
       have hdb2:cY o x=false:=by rw [hdb]; have:=of_decide_eq_false hh; exact decide_eq_false (by omega)
       repeat' (first|(simp only [aV,cC,a7,bB,bE,bJ,hfx,hf0,hf2,hf3,hx0,hx2,hx3,k1,k2,hdd,hh,hE,happ2,↓wA,↓wC,wB,aY,aW,reduceEqDiff,reduceAdd,reduceSub,reduceIte,reduceCtorEq,Nat.reduceBEq,reduceLT,bU])|(refine aZ (hN1) rfl rfl ?_)|(refine a6 (hN1) rfl rfl ?_)|(refine aZ (hN2) rfl rfl ?_)|(refine a6 (hN2) rfl rfl ?_)|(refine cT ?_)|(with_reducible refine And.intro ?_ ?_)|(with_reducible refine bK ?_ ?_; focus omega)|(with_reducible refine bK ?_ ?_; focus (simp; done))|(with_reducible refine bA ?_ ?_; focus (simp only [cV]; omega))|(refine aZ hG (congrArg (fun d:D=>some [d]) hu) rfl ?_)|(refine a6 hG (congrArg (fun d:D=>some [d]) hu) rfl ?_)|((first|apply aO|apply aQ|apply aK)<;>intro h<;>try simp only [h]))
       all_goals (refine bK rfl ?_; rw [hwE,hdb2,Bool.false_and])
     | false =>
      have hdb2:cY o x=false:=by simp [cY,of_decide_eq_false hdd]
      repeat' (first|(simp only [aV,cC,a7,bB,bE,bJ,hfx,hf0,hf2,hf3,hx0,hx2,hx3,k1,k2,hdd,hE,happ2,↓wA,↓wC,wB,aY,aW,reduceEqDiff,reduceAdd,reduceSub,reduceIte,reduceCtorEq,Nat.reduceBEq,reduceLT,bU])|(refine aZ (hN1) rfl rfl ?_)|(refine a6 (hN1) rfl rfl ?_)|(refine aZ (hN2) rfl rfl ?_)|(refine a6 (hN2) rfl rfl ?_)|(refine cT ?_)|(with_reducible refine And.intro ?_ ?_)|(with_reducible refine bK ?_ ?_; focus omega)|(with_reducible refine bK ?_ ?_; focus (simp; done))|(with_reducible refine bA ?_ ?_; focus (simp only [cV]; omega))|(refine aZ hG (congrArg (fun d:D=>some [d]) hu) rfl ?_)|(refine a6 hG (congrArg (fun d:D=>some [d]) hu) rfl ?_)|((first|apply aO|apply aQ|apply aK)<;>intro h<;>try simp only [h]))
      all_goals (refine bK rfl ?_; rw [hwE,hdb2,Bool.false_and])
    ·refine ⟨_,h,?_⟩
     simp only [xI,List.cons_append,List.nil_append,↓wA,↓wC,wB,aY,aW,reduceEqDiff,reduceAdd,reduceSub,reduceIte,reduceCtorEq,Nat.reduceBEq,reduceLT,bU]
     refine bR (freeze 4 none [1] (x:=.sl true 4 (dl Cs.s o.cs)) rfl rfl rfl) ?_
     simp only [cX,cG,D.unown,eM,↓wA,↓wC,wB,aY,aW,reduceEqDiff,reduceAdd,reduceSub,reduceIte,reduceCtorEq,Nat.reduceBEq,reduceLT,bU]
     repeat' (first|(simp only [aV,cC,a7,bB,bE,hfx,hf0,hf2,hf3,hx0,hx2,hx3,Int.toNat_natCast,htn,hs1,hs2,happ,hl1,hl2,k1,k2,↓wA,↓wC,wB,aY,aW,reduceEqDiff,reduceAdd,reduceSub,reduceIte,reduceCtorEq,Nat.reduceBEq,reduceLT,bU])|(refine cT ?_)|(with_reducible refine bK ?_ ?_; focus omega)|(with_reducible refine bA ?_ ?_; focus (simp only [cV]; omega))|((first|apply aO|apply aQ|apply aK)<;>intro h<;>try simp only [h]))
     refine dQ _ (eA 4 none [4] (es:=1) (xs:=dl D.str o.led) rfl rfl) fun v2=>?_
     simp only [cX,↓wA,↓wC,wB,aY,aW,reduceEqDiff,reduceAdd,reduceSub,reduceIte,reduceCtorEq,Nat.reduceBEq,reduceLT,bU]
     have happ2:(dl D.str o.led).app (D.cons (.str (kM x.i o.day)) .nil)=dl D.str (o.led ++ [kM x.i o.day]):=iG (f:=D.str) o.led _
     cases hdd:decide (x.d<=o.day) with
     | true =>
      have hdb:cY o x=decide (x.h.length=0):=by simp [cY,of_decide_eq_true hdd,k1',k2']
      cases hh:decide ((x.h.length:Int)=0) with
      | true =>
       have hdb2:cY o x=true:=by rw [hdb]; have:=of_decide_eq_true hh; exact decide_eq_true (by omega)
       repeat' (first|(simp only [aV,cC,a7,bB,bE,bJ,hfx,hf0,hf2,hf3,hx0,hx2,hx3,k1,k2,hdd,hh,hE,happ2,↓wA,↓wC,wB,aY,aW,reduceEqDiff,reduceAdd,reduceSub,reduceIte,reduceCtorEq,Nat.reduceBEq,reduceLT,bU])|(refine aZ (hN1) rfl rfl ?_)|(refine a6 (hN1) rfl rfl ?_)|(refine aZ (hN2) rfl rfl ?_)|(refine a6 (hN2) rfl rfl ?_)|(refine cT ?_)|(with_reducible refine And.intro ?_ ?_)|(with_reducible refine bK ?_ ?_; focus omega)|(with_reducible refine bK ?_ ?_; focus (simp; done))|(with_reducible refine bA ?_ ?_; focus (simp only [cV]; omega))|(refine aZ hG (congrArg (fun d:D=>some [d]) hu) rfl ?_)|(refine a6 hG (congrArg (fun d:D=>some [d]) hu) rfl ?_)|((first|apply aO|apply aQ|apply aK)<;>intro h<;>try simp only [h]))
       all_goals (refine bK rfl ?_; rw [hwE,hdb2,Bool.true_and])
      | false =>
       have hdb2:cY o x=false:=by rw [hdb]; have:=of_decide_eq_false hh; exact decide_eq_false (by omega)
       repeat' (first|(simp only [aV,cC,a7,bB,bE,bJ,hfx,hf0,hf2,hf3,hx0,hx2,hx3,k1,k2,hdd,hh,hE,happ2,↓wA,↓wC,wB,aY,aW,reduceEqDiff,reduceAdd,reduceSub,reduceIte,reduceCtorEq,Nat.reduceBEq,reduceLT,bU])|(refine aZ (hN1) rfl rfl ?_)|(refine a6 (hN1) rfl rfl ?_)|(refine aZ (hN2) rfl rfl ?_)|(refine a6 (hN2) rfl rfl ?_)|(refine cT ?_)|(with_reducible refine And.intro ?_ ?_)|(with_reducible refine bK ?_ ?_; focus omega)|(with_reducible refine bK ?_ ?_; focus (simp; done))|(with_reducible refine bA ?_ ?_; focus (simp only [cV]; omega))|(refine aZ hG (congrArg (fun d:D=>some [d]) hu) rfl ?_)|(refine a6 hG (congrArg (fun d:D=>some [d]) hu) rfl ?_)|((first|apply aO|apply aQ|apply aK)<;>intro h<;>try simp only [h]))
       all_goals (refine bK rfl ?_; rw [hwE,hdb2,Bool.false_and])
     | false =>
      have hdb2:cY o x=false:=by simp [cY,of_decide_eq_false hdd]
      repeat' (first|(simp only [aV,cC,a7,bB,bE,bJ,hfx,hf0,hf2,hf3,hx0,hx2,hx3,k1,k2,hdd,hE,happ2,↓wA,↓wC,wB,aY,aW,reduceEqDiff,reduceAdd,reduceSub,reduceIte,reduceCtorEq,Nat.reduceBEq,reduceLT,bU])|(refine aZ (hN1) rfl rfl ?_)|(refine a6 (hN1) rfl rfl ?_)|(refine aZ (hN2) rfl rfl ?_)|(refine a6 (hN2) rfl rfl ?_)|(refine cT ?_)|(with_reducible refine And.intro ?_ ?_)|(with_reducible refine bK ?_ ?_; focus omega)|(with_reducible refine bK ?_ ?_; focus (simp; done))|(with_reducible refine bA ?_ ?_; focus (simp only [cV]; omega))|(refine aZ hG (congrArg (fun d:D=>some [d]) hu) rfl ?_)|(refine a6 hG (congrArg (fun d:D=>some [d]) hu) rfl ?_)|((first|apply aO|apply aQ|apply aK)<;>intro h<;>try simp only [h]))
      all_goals (refine bK rfl ?_; rw [hwE,hdb2,Bool.false_and])
end Go.Pe.Tryz
set_option maxRecDepth 100000
set_option maxHeartbeats 4000000
set_option linter.all false
namespace Go.Pe.Tryz
open Nat (reduceEqDiff reduceAdd reduceSub reduceLT)
open Go.Proofs.Tryz
end Go.Pe.Tryz
set_option maxRecDepth 100000
set_option maxHeartbeats 4000000
set_option linter.all false
namespace Go.Pe.Tryz
open Nat (reduceEqDiff reduceAdd reduceSub reduceLT)
open Go.Proofs.Tryz
theorem aIT (v:List Int) (p:Int) (hlen:v.length<=1048576) (hp:p ∉ v):Fn prog 77 [.sl false 1 (dl iD v),.int .i64 p] (fun rs=>rs=[.sl true 1 (dl iD (jS p v))]):=by
 refine bV (fn:=f77) (by exact func77) c77 r77 (n:=45) (by rfl) (rv:=[.tmp 4]) (by rfl) (by simp) ?_
 unfold m77
 try simp only [wQ]
 simp only [↓wA,↓wC,wB,aY,aW,reduceEqDiff,reduceAdd,reduceSub,reduceIte,reduceCtorEq,Nat.reduceBEq,reduceLT]
 refine dZ (fun k:Nat=>⟨[(0,.d (.sl false 1 (dl iD v))),(1,.d (.int .i64 p)),(5,.d (.int .i64 k))],[]⟩) (fun k=>k<=v.length/\∀ m x,m < k->v[m]?=some x->x < p) (fun k=>v.length - k) 0 (bF _ rfl ⟨⟨rfl,rfl⟩,⟨rfl,rfl⟩,⟨rfl,rfl⟩,trivial⟩) ⟨by omega,fun m x hm _=>by omega⟩ ?_
 rintro k ⟨hk,hinv⟩
 have h0:(0:Int)<=(k:Int):=by omega
 have hs1:(dl iD v).sub 0 k=dl iD (v.take k):=by rw [oC]; rfl
 have hs2:(dl iD v).sub k v.length=dl iD (v.drop k):=by rw [oC,List.take_length]
 have hs3:(dl iD v).sub v.length v.length=dl iD (v.drop v.length):=by rw [oC,List.take_length]
 have hs4:(dl iD v).sub 0 v.length=dl iD (v.take v.length):=by rw [oC]; rfl
 by_cases hlt:k < v.length
 ·obtain ⟨x,hx⟩:=cK hlt
  have hd:decide ((k:Int) < (v.length:Int))=true:=decide_eq_true (by omega)
  cases hc:decide (x < p) with
  | true =>
   repeat' (first|(simp only [a7,hd,h0,hc,bW,Int.toNat_natCast,hx,Option.map_some,e9,aV,↓wA,↓wC,wB,aY,aW,reduceEqDiff,reduceAdd,reduceSub,reduceIte,reduceCtorEq,Nat.reduceBEq,reduceLT])|(with_reducible refine bA ?_ ?_; focus (simp only [cV]; omega))|((first|apply aO|apply aQ|apply aK)<;>intro h<;>try simp only [h]))
   refine ⟨k + 1,(bF _ rfl ⟨⟨rfl,rfl⟩,⟨rfl,rfl⟩,⟨rfl,rfl⟩,trivial⟩),⟨by omega,fun m z hm hz=>?_⟩,by omega⟩
   by_cases e:m=k
   ·subst e
    rw [hx] at hz
    injection hz with hz
    rw [<- hz]
    exact of_decide_eq_true hc
   ·exact hinv m z (by omega) hz
  | false =>
   have hpos:=aB9 v k hk hinv (fun z hz=>by
    rw [hx] at hz
    injection hz with hz
    rw [<- hz]
    exact of_decide_eq_false hc)
   have hne:decide (x=p)=false:=decide_eq_false (fun e=>hp (e ▸ List.mem_of_getElem? hx))
   rw [jS,hpos]
   repeat' (first|(simp only [a7,hd,h0,hc,hne,bW,Int.toNat_natCast,hx,Option.map_some,e9,aV,↓wA,↓wC,wB,aY,aW,reduceEqDiff,reduceAdd,reduceSub,reduceIte,reduceCtorEq,Nat.reduceBEq,reduceLT])|(refine cT ?_)|(with_reducible refine And.intro ?_ ?_)|(with_reducible refine bK ?_ ?_; focus omega)|(with_reducible refine bK ?_ ?_; focus (simp; done))|(with_reducible refine bK ?_ ?_; focus (simp; omega))|(with_reducible refine bA ?_ ?_; focus (simp only [cV]; omega))|((first|apply aO|apply aQ|apply aK)<;>intro h<;>try simp only [h]))
   all_goals
    simp only [hs1,hs2,eS,tX,a7,List.length_append,List.length_take,List.length_drop,List.length_singleton,Nat.min_eq_left hk]
    repeat' (first|(with_reducible refine bK ?_ ?_; focus omega)|(with_reducible refine bK ?_ ?_; focus (simp; done)))
    all_goals simp [List.append_assoc]
 ·have hd:decide ((k:Int) < (v.length:Int))=false:=decide_eq_false (by omega)
  have e:k=v.length:=by omega
  have hpos:=aB9 v k hk hinv (fun z hz=>absurd (bC hz) (by omega))
  rw [jS,hpos]
  subst e
  repeat' (first|(simp only [a7,hd,h0,Int.toNat_natCast,e9,aV,↓wA,↓wC,wB,aY,aW,reduceEqDiff,reduceAdd,reduceSub,reduceIte,reduceCtorEq,Nat.reduceBEq,reduceLT])|(refine cT ?_)|(with_reducible refine And.intro ?_ ?_)|(with_reducible refine bK ?_ ?_; focus omega)|(with_reducible refine bK ?_ ?_; focus (simp; done))|(with_reducible refine bK ?_ ?_; focus (simp; omega))|(with_reducible refine bA ?_ ?_; focus (simp only [cV]; omega))|((first|apply aO|apply aQ|apply aK)<;>intro h<;>try simp only [h]))
  all_goals
   simp only [hs3,hs4,eS,tX,a7,List.length_append,List.length_take,List.length_drop,List.length_singleton,Nat.min_eq_left hk]
   repeat' (first|(with_reducible refine bK ?_ ?_; focus omega)|(with_reducible refine bK ?_ ?_; focus (simp; done)))
   all_goals simp [List.append_assoc]
end Go.Pe.Tryz
