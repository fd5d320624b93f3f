/- Texts of cases (strings.Join, decimals, caseText, l25Text), walked; The text of a console, walked, and the law of FormatConsole; RunScript, walked; The law of RunScript; Scripts: the first line alone; replies are plain; The law FnScript, what the draw gives taken as said; The law FnScript -/
import Derived.Test.YtjmobminbckhjabGreatDoorW7
import Derived.Test.YtjmobminbckhjabGreatDoorW2
import Derived.Test.YtjmobminbckhjabGreatDoorW6
import Derived.Test.YtjmobminbckhjabGreatDoorPeD
import Derived.Test.YtjmobminbckhjabGreatDoorMc1
import Derived.Test.YtjmobminbckhjabGreatDoorMc2
import Derived.Test.YtjmobminbckhjabGreatDoorMc3
import Derived.Test.YtjmobminbckhjabGreatDoorMc4
import Derived.Test.YtjmobminbckhjabGreatDoorMc5
import Derived.Test.YtjmobminbckhjabGreatDoorMc6
import Derived.Test.YtjmobminbckhjabGreatDoorMc7
import Derived.Test.YtjmobminbckhjabGreatDoorMc8
set_option maxRecDepth 100000
set_option maxHeartbeats 4000000
set_option linter.all false
open Bool renaming and_eq_true->aP
open Int renaming toNat_natCast->aF
open List renaming length_append->aB, length_cons->aC, length_nil->aD, mem_of_getElem?->aE, take_length->aH, mem_of_mem_take->aI, append_assoc->aJ, length_take->aK, cons_append->aL, mem_cons_self->aM, nil_append->aO, append_nil->aQ, mem_cons_of_mem->aR
open Nat renaming reduceBEq->aA, min_eq_left->aN, reduceEqDiff->aS, reduceAdd->aT, reduceSub->aU, reduceLT->aV
open Option renaming map_some->aG
namespace Go.Pe.Tryz
open Go.Proofs.Tryz
theorem aCJ {x:Cs} (h:gS x=true):(txt x).length<=200:=by
 obtain ⟨_,_,h3,h4,h5⟩:=nO h
 have h1:=uD (v:=x.h) (fun n hn=>(h5 n hn).2)
 have h2:=eJ x.d h3.2
 have h6:=aH6 x.a
 simp only [txt,aB,aC,aD]
 omega
end Go.Pe.Tryz
namespace Go.Pe.Tryz
open Go.Proofs.Tryz Go.Sort
def cT (x:Cs):List UInt8:=Lib.itoa x.i ++ [58,32] ++ txt x ++ [10]
def lT (s:List UInt8):List UInt8:=[45,32] ++ s ++ [10]
def csT (xs:List Cs):List UInt8:=(xs.map cT).flatten
def ldT (L:List (List UInt8)):List UInt8:=(L.map lT).flatten
def tlT (x:Con):List UInt8:=[100,97,121,32] ++ Lib.itoa x.o.day ++ [59,32,107,101,112,116,32] ++ Lib.itoa x.o.kept ++ [59,32,109,111,118,101,100,32] ++ Lib.itoa x.o.moved ++ [59,32,114,101,99,111,114,100,115,32] ++ Lib.itoa x.c ++ [10]
def aRo (x:Con):List UInt8:=csT x.o.cs ++ (ldT x.o.led ++ tlT x)
def aP7 (x:Con):List D:=if gO x=true then [.str (aRo x),.bool true] else [.str [],.bool false]
theorem aPR (xs:List Cs):csT (xs.take 0)=[]:=rfl
theorem aN5 (L:List (List UInt8)):ldT (L.take 0)=[]:=rfl
theorem aKh {xs:List Cs} {i:Nat} {x:Cs} (hr:xs[i]?=some x):csT (xs.take (i + 1))=csT (xs.take i) ++ (Lib.itoa x.i ++ (58 :: 32 :: (txt x ++ [10]))):=by
 rw [fY hr]
 simp [csT,cT]
theorem aJv {L:List (List UInt8)} {i:Nat} {s:List UInt8} (hr:L[i]?=some s):ldT (L.take (i + 1))=ldT (L.take i) ++ (45 :: 32 :: (s ++ [10])):=by
 rw [fY hr]
 simp [ldT,lT]
theorem uR:∀ xs:List Cs,(∀ x∈xs,gS x=true)->(csT xs).length<=xs.length * 300
 | [],_=>by simp [csT]
 | x :: xs,h=>by
  have h1:=uR xs (fun y hy=>h y (aR _ hy))
  have h2:=aCJ (h x aM)
  have h3:=eJ x.i (nO (h x aM)).2.1.2
  have:csT (x :: xs)=cT x ++ csT xs:=rfl
  rw [this]
  simp only [cT,aB,aC,aD] at h1 ⊢
  omega
theorem uJ:∀ L:List (List UInt8),(∀ s∈L,s.length<=1048576)->(ldT L).length<=L.length * 1048580
 | [],_=>by simp [ldT]
 | s :: L,h=>by
  have h1:=uJ L (fun y hy=>h y (aR _ hy))
  have h2:=h s aM
  have:ldT (s :: L)=lT s ++ ldT L:=rfl
  rw [this]
  simp only [lT,aB,aC,aD] at h1 ⊢
  omega
theorem aFl {x:Con} (h:gO x=true):(0<=x.o.day/\eA .i64 x.o.day)/\(0<=x.o.kept/\eA .i64 x.o.kept)/\(0<=x.o.moved/\eA .i64 x.o.moved)/\(0<=x.c/\eA .i64 x.c)/\x.o.cs.length<=6/\∀ y∈x.o.cs,gS y=true:=by
 simp only [gO,dV,oQ,aP,dE,decide_eq_true_eq] at h
 obtain ⟨⟨⟨⟨⟨⟨h1,h2⟩,h3⟩,h4⟩,h5⟩,h6⟩,h7⟩:=h
 have hc:=rG h7
 refine ⟨⟨by omega,by simp only [eA]; omega⟩,⟨by omega,by simp only [eA]; omega⟩,⟨by omega,by simp only [eA]; omega⟩,⟨by omega,by simp only [eA]; omega⟩,by omega,fun y hy=>?_⟩
 obtain ⟨i,hi⟩:=List.getElem?_of_mem hy
 have:=List.all_eq_true.1 h6 i (List.mem_range.2 (c6 hi))
 rw [aAY hi,aP] at this
 exact this.1
theorem aO5 {x:Con}:fJ [0,1] x.s=1:=rfl
theorem aPy {x:Con}:fJ [0,4] x.s=4:=rfl
theorem aOv {x:Con}:fJ [0,0] x.s=0:=rfl
theorem aOw {x:Con}:fJ [0,2] x.s=2:=rfl
theorem aOI {x:Con}:fJ [0,3] x.s=3:=rfl
theorem aPM {x:Con}:gC [0,1] x.s=some (.sl false 4 (dl Cs.s x.o.cs)):=rfl
theorem aQd {x:Con}:gC [0,4] x.s=some (.sl false 1 (dl D.str x.o.led)):=rfl
theorem aN1 {x:Con}:gC [0,0] x.s=some (.int .i64 x.o.day):=rfl
theorem aOE {x:Con}:gC [0,2] x.s=some (.int .i64 x.o.kept):=rfl
theorem aPW {x:Con}:gC [0,3] x.s=some (.int .i64 x.o.moved):=rfl
theorem aE6 (x:Con) (ho:x.ok0):Fn prog 18 [x.s] (fun rs=>rs=aP7 x):=by
 have hV:=jY x ho
 unfold aP7
 cases hv:gO x with
 | false =>
  rw [hv] at hV
  refine c7 aRV [] ?_
  dsimp only [aRV,cY,dD]
  repeat' (first|(simp only [aZy,aZz,↓dY,cM,↓wA,↓wC,wB,cQ,cP,aS,aT,aU,reduceIte,reduceCtorEq,aA,aV])|(refine cO hV (by simp [dH,dQ,aZC]) rfl ?_)|((first|apply cJ|apply cK|apply cI)<;>intro h<;>try simp only [h]))
  all_goals simp
 | true =>
  rw [hv] at hV
  obtain ⟨⟨_,d1⟩,⟨_,d2⟩,⟨_,d3⟩,⟨_,d4⟩,h5,h6⟩:=aFl hv
  refine c7 aRV [] ?_
  dsimp only [aRV,cY,dD]
  repeat' (first|(simp only [aZy,aZz,↓dY,cM,cU,c8,aO5,aPM,↓wA,↓wC,wB,cQ,cP,aS,aT,aU,reduceIte,reduceCtorEq,aA,aV])|(refine cO hV (by simp [dH,dQ,aZC]) rfl ?_)|((first|apply cJ|apply cK|apply cI)<;>intro h<;>try simp only [h]))
  refine dU x.o.cs.length (fun i:Nat=>⟨[(1,.ptr 0 0 []),(4,.d (.str (csT (x.o.cs.take i)))),(14,.d (.sl false 4 (dl Cs.s x.o.cs))),(15,.d (.int .i64 x.o.cs.length)),(16,.d (.int .i64 i))],[.box x.s]⟩) (fun _=>True) (by rw [aPR]; exact (cX _ rfl ⟨⟨rfl,rfl⟩,⟨rfl,rfl⟩,⟨rfl,rfl⟩,⟨rfl,rfl⟩,⟨rfl,rfl⟩,trivial⟩)) trivial ?_ ?_
  ·intro i hlt _ hd h0
   obtain ⟨y,hr⟩:=dS hlt
   have hok:=h6 y (aE hr)
   have hC:=aCc y hok
   have hI:=(nO hok).2.1
   have hD:=eZ y.i hI.2
   have hx:=aKh hr
   have hl:=uR (x.o.cs.take i) (fun z hz=>h6 z (aI hz))
   rw [aK,aN (by omega)] at hl
   have hl2:=aCJ hok
   have hl3:=eJ y.i hI.2
   repeat' (first|(simp only [cM,cU,dC,hd,h0,aF,hr,aG,↓iN,aZE,aZD,aZG,hZ,g9,↓wA,↓wC,wB,cQ,cP,aS,aT,aU,reduceIte,reduceCtorEq,aA,aV])|(refine cR hD rfl rfl ?_)|(refine cR hC (by simp [dH,dQ,l9,aZF]) rfl ?_)|(with_reducible refine cW ?_ ?_; focus ((try simp only [aB,aC,aD]); omega))|(with_reducible refine cV ?_ ?_; focus (simp only [eA]; omega))|((first|apply cJ|apply cK|apply cI)<;>intro h<;>try simp only [h]))
   all_goals (refine ⟨i + 1,?_,by omega,by omega⟩; rw [hx]; (try simp only [aJ,aL,aO]); exact (cX _ rfl ⟨⟨rfl,rfl⟩,⟨rfl,rfl⟩,⟨rfl,rfl⟩,⟨rfl,rfl⟩,⟨rfl,rfl⟩,trivial⟩))
  ·intro _ hd
   have hcl:=uR x.o.cs h6
   repeat' (first|(simp only [cM,cU,hd,aH,cZ,aPy,aQd,↓wA,↓wC,wB,cQ,cP,aS,aT,aU,reduceIte,reduceCtorEq,aA,aV])|((first|apply cJ|apply cK|apply cI)<;>intro h<;>try simp only [h]))
   refine dU x.o.led.length (fun i:Nat=>⟨[(1,.ptr 0 0 []),(4,.d (.str (csT x.o.cs ++ ldT (x.o.led.take i)))),(33,.d (.sl false 1 (dl D.str x.o.led))),(34,.d (.int .i64 x.o.led.length)),(35,.d (.int .i64 i))],[.box x.s]⟩) (fun _=>True) (by rw [aN5,aQ]; exact (cX _ rfl ⟨⟨rfl,rfl⟩,⟨rfl,rfl⟩,⟨rfl,rfl⟩,⟨rfl,rfl⟩,⟨rfl,rfl⟩,trivial⟩)) trivial ?_ ?_
   ·intro i hlt _ hd h0
    obtain ⟨s,hr⟩:=dS hlt
    have hx:=aJv hr
    have hsl:=ho.1.2.2 s (aE hr)
    have hln:=ho.1.2.1
    have hl:=uJ (x.o.led.take i) (fun z hz=>ho.1.2.2 z (aI hz))
    rw [aK,aN (by omega)] at hl
    repeat' (first|(simp only [cM,cU,dC,hd,h0,aF,hr,aG,↓wA,↓wC,wB,cQ,cP,aS,aT,aU,reduceIte,reduceCtorEq,aA,aV])|(with_reducible refine cW ?_ ?_; focus ((try simp only [aB,aC,aD]); omega))|(with_reducible refine cV ?_ ?_; focus (simp only [eA]; omega))|((first|apply cJ|apply cK|apply cI)<;>intro h<;>try simp only [h]))
    all_goals (refine ⟨i + 1,?_,by omega,by omega⟩; rw [hx]; (try simp only [aJ,aL,aO]); exact (cX _ rfl ⟨⟨rfl,rfl⟩,⟨rfl,rfl⟩,⟨rfl,rfl⟩,⟨rfl,rfl⟩,⟨rfl,rfl⟩,trivial⟩))
   ·intro _ hd
    have e1:=eZ x.o.day d1
    have e2:=eZ x.o.kept d2
    have e3:=eZ x.o.moved d3
    have e4:=eZ x.c d4
    have l1:=eJ x.o.day d1
    have l2:=eJ x.o.kept d2
    have l3:=eJ x.o.moved d3
    have l4:=eJ x.c d4
    have hl:=uJ x.o.led ho.1.2.2
    have hln:=ho.1.2.1
    repeat' (first|(simp only [cM,cU,hd,aH,aOv,aN1,aOw,aOE,aOI,aPW,lE,lC,↓wA,↓wC,wB,cQ,cP,aS,aT,aU,reduceIte,reduceCtorEq,aA,aV])|(refine cR e1 rfl rfl ?_)|(refine cR e2 rfl rfl ?_)|(refine cR e3 rfl rfl ?_)|(refine cR e4 rfl rfl ?_)|(with_reducible refine cW ?_ ?_; focus ((try simp only [aB,aC,aD]); omega))|((first|apply cJ|apply cK|apply cI)<;>intro h<;>try simp only [h]))
    all_goals (simp [aRo,tlT]; done)
theorem aEM (x:Con) (ho:x.ok0):Fn prog 19 [x.s] (fun rs=>rs=aP7 x):=by
 have hV:=q9 x ho
 unfold aP7
 cases hv:gO x with
 | false =>
  rw [hv] at hV
  refine c7 aRE [] ?_
  dsimp only [aRE,cY,dD]
  repeat' (first|(simp only [aZy,aZz,↓dY,cM,↓wA,↓wC,wB,cQ,cP,aS,aT,aU,reduceIte,reduceCtorEq,aA,aV])|(refine cO hV (by simp [dH,dQ,aZC]) rfl ?_)|((first|apply cJ|apply cK|apply cI)<;>intro h<;>try simp only [h]))
  all_goals simp
 | true =>
  rw [hv] at hV
  obtain ⟨⟨z1,d1⟩,⟨z2,d2⟩,⟨z3,d3⟩,⟨z4,d4⟩,h5,h6⟩:=aFl hv
  refine c7 aRE [] ?_
  dsimp only [aRE,cY,dD]
  repeat' (first|(simp only [aZy,aZz,↓dY,cM,cU,c8,sH,vQ,↓dK,aZw,aZx,aZB,↓wA,↓wC,wB,cQ,cP,aS,aT,aU,reduceIte,reduceCtorEq,aA,aV])|(refine dN ?_)|(with_reducible refine And.intro ?_ ?_)|(refine cO hV (by simp [dH,dQ,aZC]) rfl ?_)|((first|apply cJ|apply cK|apply cI)<;>intro h<;>try simp only [h]))
  ·skip
   refine dU x.o.cs.length (fun i:Nat=>⟨[(1,.ptr 0 0 []),(4,.d (.str (csT (x.o.cs.take i)))),(5,.ptr 1 0 []),(6,.d (.int .i64 i))],[.box x.s,.box x.o.s]⟩) (fun _=>True) (by rw [aPR]; exact (cX _ rfl ⟨⟨rfl,rfl⟩,⟨rfl,rfl⟩,⟨rfl,rfl⟩,⟨rfl,rfl⟩,trivial⟩)) trivial ?_ ?_
   ·intro i hlt _ hd h0
    obtain ⟨y,hr⟩:=dS hlt
    have hok:=h6 y (aE hr)
    have hC:=aAc y hok
    have hI:=(nO hok).2.1
    have hD:=eW y.i hI.1 hI.2
    have hx:=aKh hr
    have hl:=uR (x.o.cs.take i) (fun z hz=>h6 z (aI hz))
    rw [aK,aN (by omega)] at hl
    have hl2:=aCJ hok
    have hl3:=eJ y.i hI.2
    repeat' (first|(simp only [cM,cU,dC,hd,h0,aF,hr,aG,c8,↓iN,pB,aZE,aZD,aZG,iL,iP,↓wA,↓wC,wB,cQ,cP,aS,aT,aU,reduceIte,reduceCtorEq,aA,aV])|(refine cR hD rfl rfl ?_)|(refine cR hC (by simp [dH,dQ,l9,aZF]) rfl ?_)|(with_reducible refine cW ?_ ?_; focus ((try simp only [aB,aC,aD]); omega))|(with_reducible refine cV ?_ ?_; focus (simp only [eA]; omega))|((first|apply cJ|apply cK|apply cI)<;>intro h<;>try simp only [h]))
    all_goals (refine ⟨i + 1,?_,by omega,by omega⟩; rw [hx]; (try simp only [aJ,aL,aO]); exact (cX _ rfl ⟨⟨rfl,rfl⟩,⟨rfl,rfl⟩,⟨rfl,rfl⟩,⟨rfl,rfl⟩,trivial⟩))
   ·intro _ hd
    have hcl:=uR x.o.cs h6
    repeat' (first|(simp only [cM,cU,hd,aH,c8,iL,iP,↓wA,↓wC,wB,cQ,cP,aS,aT,aU,reduceIte,reduceCtorEq,aA,aV])|((first|apply cJ|apply cK|apply cI)<;>intro h<;>try simp only [h]))
    refine dU x.o.led.length (fun i:Nat=>⟨[(1,.ptr 0 0 []),(4,.d (.str (csT x.o.cs ++ ldT (x.o.led.take i)))),(5,.ptr 1 0 []),(7,.d (.int .i64 i))],[.box x.s,.box x.o.s]⟩) (fun _=>True) (by rw [aN5,aQ]; exact (cX _ rfl ⟨⟨rfl,rfl⟩,⟨rfl,rfl⟩,⟨rfl,rfl⟩,⟨rfl,rfl⟩,trivial⟩)) trivial ?_ ?_
    ·intro i hlt _ hd h0
     obtain ⟨s,hr⟩:=dS hlt
     have hx:=aJv hr
     have hsl:=ho.1.2.2 s (aE hr)
     have hln:=ho.1.2.1
     have hl:=uJ (x.o.led.take i) (fun z hz=>ho.1.2.2 z (aI hz))
     rw [aK,aN (by omega)] at hl
     repeat' (first|(simp only [cM,cU,dC,hd,h0,aF,hr,aG,cZ,iS,iR,↓wA,↓wC,wB,cQ,cP,aS,aT,aU,reduceIte,reduceCtorEq,aA,aV])|(with_reducible refine cW ?_ ?_; focus ((try simp only [aB,aC,aD]); omega))|(with_reducible refine cV ?_ ?_; focus (simp only [eA]; omega))|((first|apply cJ|apply cK|apply cI)<;>intro h<;>try simp only [h]))
     all_goals (refine ⟨i + 1,?_,by omega,by omega⟩; rw [hx]; (try simp only [aJ,aL,aO]); exact (cX _ rfl ⟨⟨rfl,rfl⟩,⟨rfl,rfl⟩,⟨rfl,rfl⟩,⟨rfl,rfl⟩,trivial⟩))
    ·intro _ hd
     have e1:=eW x.o.day z1 d1
     have e2:=eW x.o.kept z2 d2
     have e3:=eW x.o.moved z3 d3
     have e4:=eW x.c z4 d4
     have l1:=eJ x.o.day d1
     have l2:=eJ x.o.kept d2
     have l3:=eJ x.o.moved d3
     have l4:=eJ x.c d4
     have hl:=uJ x.o.led ho.1.2.2
     have hln:=ho.1.2.1
     repeat' (first|(simp only [cM,cU,hd,aH,cZ,iC,iB,lS,lO,lR,lQ,iS,iR,lE,lC,↓wA,↓wC,wB,cQ,cP,aS,aT,aU,reduceIte,reduceCtorEq,aA,aV])|(refine cR e1 rfl rfl ?_)|(refine cR e2 rfl rfl ?_)|(refine cR e3 rfl rfl ?_)|(refine cR e4 rfl rfl ?_)|(with_reducible refine cW ?_ ?_; focus ((try simp only [aB,aC,aD]); omega))|((first|apply cJ|apply cK|apply cI)<;>intro h<;>try simp only [h]))
     all_goals (simp [aRo,tlT]; done)
  ·skip
   refine dU x.o.cs.length (fun i:Nat=>⟨[(1,.ptr 0 0 []),(4,.d (.str (csT (x.o.cs.take i)))),(5,.ptr 1 0 []),(6,.d (.int .i64 i))],[.box x.s,.box x.o.s]⟩) (fun _=>True) (by rw [aPR]; exact (cX _ rfl ⟨⟨rfl,rfl⟩,⟨rfl,rfl⟩,⟨rfl,rfl⟩,⟨rfl,rfl⟩,trivial⟩)) trivial ?_ ?_
   ·intro i hlt _ hd h0
    obtain ⟨y,hr⟩:=dS hlt
    have hok:=h6 y (aE hr)
    have hC:=aAc y hok
    have hI:=(nO hok).2.1
    have hD:=eW y.i hI.1 hI.2
    have hx:=aKh hr
    have hl:=uR (x.o.cs.take i) (fun z hz=>h6 z (aI hz))
    rw [aK,aN (by omega)] at hl
    have hl2:=aCJ hok
    have hl3:=eJ y.i hI.2
    repeat' (first|(simp only [cM,cU,dC,hd,h0,aF,hr,aG,c8,↓iN,pB,aZE,aZD,aZG,iL,iP,↓wA,↓wC,wB,cQ,cP,aS,aT,aU,reduceIte,reduceCtorEq,aA,aV])|(refine cR hD rfl rfl ?_)|(refine cR hC (by simp [dH,dQ,l9,aZF]) rfl ?_)|(with_reducible refine cW ?_ ?_; focus ((try simp only [aB,aC,aD]); omega))|(with_reducible refine cV ?_ ?_; focus (simp only [eA]; omega))|((first|apply cJ|apply cK|apply cI)<;>intro h<;>try simp only [h]))
    all_goals (refine ⟨i + 1,?_,by omega,by omega⟩; rw [hx]; (try simp only [aJ,aL,aO]); exact (cX _ rfl ⟨⟨rfl,rfl⟩,⟨rfl,rfl⟩,⟨rfl,rfl⟩,⟨rfl,rfl⟩,trivial⟩))
   ·intro _ hd
    have hcl:=uR x.o.cs h6
    repeat' (first|(simp only [cM,cU,hd,aH,c8,iL,iP,↓wA,↓wC,wB,cQ,cP,aS,aT,aU,reduceIte,reduceCtorEq,aA,aV])|((first|apply cJ|apply cK|apply cI)<;>intro h<;>try simp only [h]))
    refine dU x.o.led.length (fun i:Nat=>⟨[(1,.ptr 0 0 []),(4,.d (.str (csT x.o.cs ++ ldT (x.o.led.take i)))),(5,.ptr 1 0 []),(7,.d (.int .i64 i))],[.box x.s,.box x.o.s]⟩) (fun _=>True) (by rw [aN5,aQ]; exact (cX _ rfl ⟨⟨rfl,rfl⟩,⟨rfl,rfl⟩,⟨rfl,rfl⟩,⟨rfl,rfl⟩,trivial⟩)) trivial ?_ ?_
    ·intro i hlt _ hd h0
     obtain ⟨s,hr⟩:=dS hlt
     have hx:=aJv hr
     have hsl:=ho.1.2.2 s (aE hr)
     have hln:=ho.1.2.1
     have hl:=uJ (x.o.led.take i) (fun z hz=>ho.1.2.2 z (aI hz))
     rw [aK,aN (by omega)] at hl
     repeat' (first|(simp only [cM,cU,dC,hd,h0,aF,hr,aG,cZ,iS,iR,↓wA,↓wC,wB,cQ,cP,aS,aT,aU,reduceIte,reduceCtorEq,aA,aV])|(with_reducible refine cW ?_ ?_; focus ((try simp only [aB,aC,aD]); omega))|(with_reducible refine cV ?_ ?_; focus (simp only [eA]; omega))|((first|apply cJ|apply cK|apply cI)<;>intro h<;>try simp only [h]))
     all_goals (refine ⟨i + 1,?_,by omega,by omega⟩; rw [hx]; (try simp only [aJ,aL,aO]); exact (cX _ rfl ⟨⟨rfl,rfl⟩,⟨rfl,rfl⟩,⟨rfl,rfl⟩,⟨rfl,rfl⟩,trivial⟩))
    ·intro _ hd
     have e1:=eW x.o.day z1 d1
     have e2:=eW x.o.kept z2 d2
     have e3:=eW x.o.moved z3 d3
     have e4:=eW x.c z4 d4
     have l1:=eJ x.o.day d1
     have l2:=eJ x.o.kept d2
     have l3:=eJ x.o.moved d3
     have l4:=eJ x.c d4
     have hl:=uJ x.o.led ho.1.2.2
     have hln:=ho.1.2.1
     repeat' (first|(simp only [cM,cU,hd,aH,cZ,iC,iB,lS,lO,lR,lQ,iS,iR,lE,lC,↓wA,↓wC,wB,cQ,cP,aS,aT,aU,reduceIte,reduceCtorEq,aA,aV])|(refine cR e1 rfl rfl ?_)|(refine cR e2 rfl rfl ?_)|(refine cR e3 rfl rfl ?_)|(refine cR e4 rfl rfl ?_)|(with_reducible refine cW ?_ ?_; focus ((try simp only [aB,aC,aD]); omega))|((first|apply cJ|apply cK|apply cI)<;>intro h<;>try simp only [h]))
     all_goals (simp [aRo,tlT]; done)
def yH (x:Con) (L:List (List UInt8)):Con×List (List UInt8):=L.foldl (fun p l=>((jO p.1 l).1,p.2 ++ [(jO p.1 l).2])) (x,[])
def oH (x:Con) (s:List UInt8):Bool:=gO x && decide (s.length<=4000) && decide ((parts 10 s).length<=30)
def nL (x:Con) (s:List UInt8):List (List UInt8):=if oH x s=true then (yH x (parts 10 s)).2 else []
theorem aGV {x:Con} {L:List (List UInt8)} {i:Nat} {l:List UInt8} (hr:L[i]?=some l):yH x (L.take (i + 1))=((jO (yH x (L.take i)).1 l).1,(yH x (L.take i)).2 ++ [(jO (yH x (L.take i)).1 l).2]):=by
 unfold yH
 rw [fY hr,List.foldl_append]; rfl
theorem xX:∀ (i:Nat) {x:Con} {L:List (List UInt8)},x.ok0->i<=L.length->(yH x (L.take i)).1.ok0/\(yH x (L.take i)).2.length=i
 | 0,x,L,h,_=>⟨h,rfl⟩
 | i + 1,x,L,h,hi=>by
  obtain ⟨l,hr⟩:=dS (show i < L.length by omega)
  have ih:=xX i (L:=L) h (by omega)
  rw [aGV hr]
  exact ⟨aGo ih.1,by simp [ih.2]⟩
theorem tE (x:Con) (s:List UInt8) (h:x.ok0) (hl:s.length<=1048576):Fn prog 15 [x.s,.str s] (fun rs=>rs=[.sl true 1 (dl D.str (nL x s)),.bool (oH x s)]):=by
 have hV:=jY x h
 have hP:Fn prog 36 [.str s,.str [10]] (fun rs=>rs=[.sl false 1 (dl D.str (parts 10 s))]):=by simpa [D.unown,fF] using fE (aIM s 10 (by omega))
 cases hv:gO x with
 | false =>
  rw [hv] at hV
  have hB:oH x s=false:=by simp [oH,hv]
  rw [show nL x s=[] by simp [nL,hB],hB]
  refine c7 aHX [] ?_
  dsimp only [aHX,cY,dD]
  repeat' (first|(simp only [aZy,aZz,aZA,↓dY,cM,↓wA,↓wC,wB,cQ,cP,aS,aT,aU,reduceIte,reduceCtorEq,aA,aV])|(refine cO hV rfl rfl ?_)|((first|apply cJ|apply cK|apply cI)<;>intro h<;>try simp only [h]))
  exact lH 1 rfl
 | true =>
  rw [hv] at hV
  by_cases h4:(4000:Int) < (s.length:Int)
  ·have hd4:decide ((4000:Int) < (s.length:Int))=true:=decide_eq_true h4
   have hB:oH x s=false:=by
    rw [oH,show decide (s.length<=4000)=false from decide_eq_false (by omega)]; simp
   rw [show nL x s=[] by simp [nL,hB],hB]
   refine c7 aHX [] ?_
   dsimp only [aHX,cY,dD]
   repeat' (first|(simp only [hd4,aZy,aZz,aZA,↓dY,cM,↓wA,↓wC,wB,cQ,cP,aS,aT,aU,reduceIte,reduceCtorEq,aA,aV])|(refine cO hV rfl rfl ?_)|((first|apply cJ|apply cK|apply cI)<;>intro h<;>try simp only [h]))
   exact lH 1 rfl
  ·have hd4:decide ((4000:Int) < (s.length:Int))=false:=decide_eq_false h4
   by_cases h3:(30:Int) < ((parts 10 s).length:Int)
   ·have hd3:decide ((30:Int) < ((parts 10 s).length:Int))=true:=decide_eq_true h3
    have hB:oH x s=false:=by
     rw [oH,show decide ((parts 10 s).length<=30)=false from decide_eq_false (by omega)]; simp
    rw [show nL x s=[] by simp [nL,hB],hB]
    refine c7 aHX [] ?_
    dsimp only [aHX,cY,dD]
    repeat' (first|(simp only [hd4,hd3,cU,cZ,aZy,aZz,aZA,↓dY,cM,↓wA,↓wC,wB,cQ,cP,aS,aT,aU,reduceIte,reduceCtorEq,aA,aV])|(refine cO hV rfl rfl ?_)|(refine cO hP rfl rfl ?_)|((first|apply cJ|apply cK|apply cI)<;>intro h<;>try simp only [h]))
    exact lH 1 rfl
   ·have hd3:decide ((30:Int) < ((parts 10 s).length:Int))=false:=decide_eq_false h3
    have hB:oH x s=true:=by simp [oH,hv]; omega
    rw [show nL x s=(yH x (parts 10 s)).2 by simp [nL,hB],hB]
    have hle:∀ l∈parts 10 s,l.length<=s.length:=fun l hm=>rI 10 s l hm
    generalize parts 10 s=L at hP hd3 h3 hle
    refine c7 aHX [] ?_
    dsimp only [aHX,cY,dD]
    repeat' (first|(simp only [hd4,hd3,cU,cZ,aZy,aZz,aZA,↓dY,cM,↓wA,↓wC,wB,cQ,cP,aS,aT,aU,reduceIte,reduceCtorEq,aA,aV])|(refine cO hV rfl rfl ?_)|(refine cO hP rfl rfl ?_)|((first|apply cJ|apply cK|apply cI)<;>intro h<;>try simp only [h]))
    refine sI [(7,1)] L.length (fun i:Nat=>⟨[(2,.ptr 0 0 []),(7,.own 1),(25,.d (.sl false 1 (dl D.str L))),(26,.d (.int .i64 L.length)),(27,.d (.int .i64 i))],[.box (yH x (L.take i)).1.s,.val (.sl true 1 (dl D.str (yH x (L.take i)).2))]⟩) (fun _=>True) ⟨rfl,trivial⟩ ?_ trivial ?_ ?_
    ·exact (cX _ rfl ⟨⟨rfl,rfl⟩,⟨rfl,rfl⟩,⟨rfl,rfl⟩,⟨rfl,rfl⟩,⟨rfl,rfl⟩,trivial⟩)
    ·intro i hlt _ hd h0
     obtain ⟨l,hr⟩:=dS hlt
     have hk:=xX i (L:=L) h (by omega)
     have hll:=hle l (aE hr)
     have hX:=qM _ l hk.1 (by omega)
     have hnx:=aGV (x:=x) hr
     generalize yH x (L.take i)=p at hX hnx hk
     repeat' (first|(simp only [hd,h0,hr,aF,aG,cU,dC,cZ,aZy,aZz,aZA,↓dY,cM,↓wA,↓wC,wB,cQ,cP,aS,aT,aU,reduceIte,reduceCtorEq,aA,aV])|(refine cW rfl ?_)|(refine dN ?_)|(with_reducible refine And.intro ?_ ?_)|(refine cO hX rfl rfl ?_)|(refine cW (fun h=>by cases h) ?_)|(with_reducible refine cW ?_ ?_; focus ((try simp only [cU]); omega))|(refine cV (by simp only [eA]; omega) ?_)|((first|apply cJ|apply cK|apply cI)<;>intro h<;>try simp only [h]))
     all_goals
      refine ⟨i + 1,?_,by omega,by omega⟩
      rw [hnx]
      (try simp only [aC9])
      exact (cX _ rfl ⟨⟨rfl,rfl⟩,⟨rfl,rfl⟩,⟨rfl,rfl⟩,⟨rfl,rfl⟩,⟨rfl,rfl⟩,trivial⟩)
    ·intro _ hd
     have hk:=xX L.length (L:=L) h (by omega)
     rw [aH] at hk ⊢
     repeat' (first|(simp only [hd,cU,cM,↓wA,↓wC,wB,cQ,cP,aS,aT,aU,reduceIte,reduceCtorEq,aA,aV])|((first|apply cJ|apply cK|apply cI)<;>intro h<;>try simp only [h]))
theorem aBW (x:Con) (s:List UInt8) (h:x.ok0) (hl:s.length<=1048576):Fn prog 16 [x.s,.str s] (fun rs=>rs=[.sl true 1 (dl D.str (nL x s)),.bool (oH x s)]):=by
 have hV:=q9 x h
 have hP:Fn prog 46 [.str s,.int .u8 10] (fun rs=>rs=[.sl false 1 (dl D.str (parts 10 s))]):=by simpa [D.unown,fF] using fE (o6 s 10 (by omega))
 cases hv:gO x with
 | false =>
  rw [hv] at hV
  have hB:oH x s=false:=by simp [oH,hv]
  rw [show nL x s=[] by simp [nL,hB],hB]
  refine c7 aH8 [] ?_
  dsimp only [aH8,cY,dD]
  repeat' (first|(simp only [aZy,aZz,aZA,↓dY,cM,cU,cZ,↓wA,↓wC,wB,cQ,cP,aS,aT,aU,reduceIte,reduceCtorEq,aA,aV])|(refine cO hV rfl rfl ?_)|(refine cO hP rfl rfl ?_)|((first|apply cJ|apply cK|apply cI)<;>intro h<;>try simp only [h]))
  all_goals rfl
 | true =>
  rw [hv] at hV
  by_cases h4:(4000:Int) < (s.length:Int)
  ·have hd4:decide ((4000:Int) < (s.length:Int))=true:=decide_eq_true h4
   have hB:oH x s=false:=by
    rw [oH,show decide (s.length<=4000)=false from decide_eq_false (by omega)]; simp
   rw [show nL x s=[] by simp [nL,hB],hB]
   refine c7 aH8 [] ?_
   dsimp only [aH8,cY,dD]
   repeat' (first|(simp only [hd4,aZy,aZz,aZA,↓dY,cM,cU,cZ,↓wA,↓wC,wB,cQ,cP,aS,aT,aU,reduceIte,reduceCtorEq,aA,aV])|(refine cO hV rfl rfl ?_)|(refine cO hP rfl rfl ?_)|((first|apply cJ|apply cK|apply cI)<;>intro h<;>try simp only [h]))
   all_goals rfl
  ·have hd4:decide ((4000:Int) < (s.length:Int))=false:=decide_eq_false h4
   by_cases h3:(30:Int) < ((parts 10 s).length:Int)
   ·have hd3:decide ((30:Int) < ((parts 10 s).length:Int))=true:=decide_eq_true h3
    have hB:oH x s=false:=by
     rw [oH,show decide ((parts 10 s).length<=30)=false from decide_eq_false (by omega)]; simp
    rw [show nL x s=[] by simp [nL,hB],hB]
    refine c7 aH8 [] ?_
    dsimp only [aH8,cY,dD]
    repeat' (first|(simp only [hd4,hd3,cU,cZ,aZy,aZz,aZA,↓dY,cM,↓wA,↓wC,wB,cQ,cP,aS,aT,aU,reduceIte,reduceCtorEq,aA,aV])|(refine cO hV rfl rfl ?_)|(refine cO hP rfl rfl ?_)|((first|apply cJ|apply cK|apply cI)<;>intro h<;>try simp only [h]))
    all_goals rfl
   ·have hd3:decide ((30:Int) < ((parts 10 s).length:Int))=false:=decide_eq_false h3
    have hB:oH x s=true:=by simp [oH,hv]; omega
    rw [show nL x s=(yH x (parts 10 s)).2 by simp [nL,hB],hB]
    have hle:∀ l∈parts 10 s,l.length<=s.length:=fun l hm=>rI 10 s l hm
    generalize parts 10 s=L at hP hd3 h3 hle
    refine c7 aH8 [] ?_
    dsimp only [aH8,cY,dD]
    repeat' (first|(simp only [hd4,hd3,cU,cZ,aZy,aZz,aZA,↓dY,cM,↓wA,↓wC,wB,cQ,cP,aS,aT,aU,reduceIte,reduceCtorEq,aA,aV])|(refine cO hV rfl rfl ?_)|(refine cO hP rfl rfl ?_)|((first|apply cJ|apply cK|apply cI)<;>intro h<;>try simp only [h]))
    refine dU L.length (fun i:Nat=>⟨[(2,.ptr 0 0 []),(6,.own 1),(7,.d (.sl false 1 (dl D.str L))),(9,.d (.int .i64 i))],[.box (yH x (L.take i)).1.s,.val (.sl true 1 (dl D.str (yH x (L.take i)).2))]⟩) (fun _=>True) (cX _ rfl ⟨⟨rfl,rfl⟩,⟨rfl,rfl⟩,⟨rfl,rfl⟩,⟨rfl,rfl⟩,trivial⟩) trivial ?_ ?_
    ·intro i hlt _ hd h0
     obtain ⟨l,hr⟩:=dS hlt
     have hk:=xX i (L:=L) h (by omega)
     have hll:=hle l (aE hr)
     have hX:=pY _ l hk.1 (by omega)
     have hnx:=aGV (x:=x) hr
     generalize yH x (L.take i)=p at hX hnx hk
     repeat' (first|(simp only [hd,h0,hr,aF,aG,cU,dC,cZ,aZy,aZz,aZA,↓dY,cM,↓wA,↓wC,wB,cQ,cP,aS,aT,aU,reduceIte,reduceCtorEq,aA,aV])|(refine cW rfl ?_)|(refine dN ?_)|(with_reducible refine And.intro ?_ ?_)|(refine cO hX rfl rfl ?_)|(refine cW (fun h=>by cases h) ?_)|(with_reducible refine cW ?_ ?_; focus ((try simp only [cU]); omega))|(refine cV (by simp only [eA]; omega) ?_)|((first|apply cJ|apply cK|apply cI)<;>intro h<;>try simp only [h]))
     all_goals
      refine ⟨i + 1,?_,by omega,by omega⟩
      rw [hnx]
      (try simp only [aC9])
      exact (cX _ rfl ⟨⟨rfl,rfl⟩,⟨rfl,rfl⟩,⟨rfl,rfl⟩,⟨rfl,rfl⟩,trivial⟩)
    ·intro _ hd
     have hk:=xX L.length (L:=L) h (by omega)
     rw [aH] at hk ⊢
     repeat' (first|(simp only [hd,cU,cM,↓wA,↓wC,wB,cQ,cP,aS,aT,aU,reduceIte,reduceCtorEq,aA,aV])|((first|apply cJ|apply cK|apply cI)<;>intro h<;>try simp only [h]))
theorem aPc (x:Con) (s:List UInt8) (h:x.ok0):(nL x s).length<=30:=by
 unfold nL
 split
 ·rename_i hb
  have hk:=(xX (parts 10 s).length (L:=parts 10 s) h (Nat.le_refl _)).2
  rw [aH] at hk
  simp only [oH,aP,decide_eq_true_eq] at hb
  omega
 ·exact Nat.zero_le _
theorem aLb:∀ (L:List (List UInt8)) (p:Con×List (List UInt8)),∃ t,(L.foldl (fun p l=>((jO p.1 l).1,p.2 ++ [(jO p.1 l).2])) p).2=p.2 ++ t
 | [],p=>⟨[],by simp⟩
 | l :: L,p=>by
  obtain ⟨t,ht⟩:=aLb L ((jO p.1 l).1,p.2 ++ [(jO p.1 l).2])
  exact ⟨(jO p.1 l).2 :: t,by rw [List.foldl_cons,ht,aJ]; rfl⟩
theorem aNf {x:Con} {s l:List UInt8} {ls:List (List UInt8)} (hb:oH x s=true) (hp:parts 10 s=l :: ls):oH x l=true/\nL x l=[(jO x l).2]/\∃ rs,nL x s=(jO x l).2 :: rs:=by
 have hbf:l=dA 10 s:=by
  have h:=rT 10 s
  rw [hp] at h
  injection h
 have hn:(10:UInt8) ∉ l:=by rw [hbf]; exact oT 10 s
 have h1:parts 10 l=[l]:=zE hn
 have hle:l.length<=s.length:=rI 10 s l (by rw [hp]; exact aM ..)
 have hb1:oH x l=true:=by
  simp only [oH,aP,decide_eq_true_eq] at hb ⊢
  rw [h1]
  exact ⟨⟨hb.1.1,by omega⟩,by simp⟩
 refine ⟨hb1,?_,?_⟩
 ·rw [nL,if_pos hb1,h1]; rfl
 ·rw [nL,if_pos hb,hp]
  obtain ⟨t,ht⟩:=aLb ls ((jO x l).1,[] ++ [(jO x l).2])
  exact ⟨t,ht⟩
theorem aHV (code:List UInt8) (hD:code.length<=65536->Fn prog 14 [.sl false 1 (eK code)] (fun rs=>∃ (x:Con) (s:List UInt8),rs=[x.s,.str s]/\x.ok0/\s.length<=1000000)):Fn prog 4 [.sl false 1 (eK code)] (fun rs=>rs=[.bool true]):=by
 have hB:=aGq code
 by_cases hc:(65536:Int) < (code.length:Int)
 ·have hd:decide ((65536:Int) < (code.length:Int))=true:=decide_eq_true hc
  rw [hd] at hB
  refine c7 ef4 [] ?_
  dsimp only [ef4,cY,dD]
  repeat' (first|(simp only [↓wA,↓wC,wB,cQ,cP,aS,aT,aU,reduceIte,reduceCtorEq,aA,aV])|(refine cO (hB) rfl rfl ?_)|(refine cR (hB) rfl rfl ?_)|((first|apply cJ|apply cK|apply cI)<;>intro h<;>try simp only [h]))
 ·have hd:decide ((65536:Int) < (code.length:Int))=false:=decide_eq_false hc
  rw [hd] at hB
  refine c7 ef4 [] ?_
  dsimp only [ef4,cY,dD]
  repeat' (first|(simp only [↓wA,↓wC,wB,cQ,cP,aS,aT,aU,reduceIte,reduceCtorEq,aA,aV])|(refine cO (hB) rfl rfl ?_)|(refine cR (hB) rfl rfl ?_)|((first|apply cJ|apply cK|apply cI)<;>intro h<;>try simp only [h]))
  refine tH (hD (by omega)) rfl fun rs h=>?_
  obtain ⟨x,s,rfl,ho,hs⟩:=h
  refine ⟨.inl rfl,?_⟩
  have hI:Fn prog 15 [x.s,.str s] (fun rs=>rs=[.sl false 1 (dl D.str (nL x s)),.bool (oH x s)]):=by simpa [D.unown,fF] using fE (tE x s ho (by omega))
  have hS:Fn prog 16 [x.s,.str s] (fun rs=>rs=[.sl false 1 (dl D.str (nL x s)),.bool (oH x s)]):=by simpa [D.unown,fF] using fE (aBW x s ho (by omega))
  have hF:=aE6 x ho
  have hG:=aEM x ho
  have hP:Fn prog 17 [.str s,.str [10]] (fun rs=>rs=if s.length<=4000 then [.sl false 1 (dl D.str (parts 10 s)),.bool true] else [.sl false 1 .nil,.bool false]):=by
   have h:=fE (aB0 s (by omega))
   by_cases h4:s.length<=4000
   ·simpa [h4,D.unown,fF] using h
   ·simpa [h4,D.unown] using h
  have hlen:=aPc x s ho
  have hbb:∀ b:Bool,(b != b)=false:=fun b=>by cases b<;>rfl
  have hnn:∀ n:Int,decide (n=n)=true:=fun n=>decide_eq_true rfl
  have hss:∀ n:List UInt8,decide (n=n)=true:=fun n=>decide_eq_true rfl
  repeat' (first|(simp only [aZy,aZz,aZA,aZC,↓dY,cU,cZ,hbb,hnn,cM,↓wA,↓wC,wB,cQ,cP,aS,aT,aU,reduceIte,reduceCtorEq,aA,aV])|(refine cO hI rfl rfl ?_)|(refine cO hS rfl rfl ?_)|((first|apply cJ|apply cK|apply cI)<;>intro h<;>try simp only [h]))
  refine dU (nL x s).length (fun i:Nat=>⟨[(3,.ptr 0 0 []),(4,.d (.str s)),(5,.d (.sl false 1 (dl D.str (nL x s)))),(6,.d (.bool (oH x s))),(7,.d (.sl false 1 (dl D.str (nL x s)))),(9,.d (.int .i64 i))],[.box x.s]⟩) (fun _=>True) (cX _ rfl ⟨⟨rfl,rfl⟩,⟨rfl,rfl⟩,⟨rfl,rfl⟩,⟨rfl,rfl⟩,⟨rfl,rfl⟩,⟨rfl,rfl⟩,trivial⟩) trivial ?_ ?_
  ·intro i hlt _ hdi h0
   obtain ⟨r,hr⟩:=dS hlt
   repeat' (first|(simp only [cU,dC,hdi,aF,hr,aG,h0,hss,cM,decide_true,↓wA,↓wC,wB,cQ,cP,aS,aT,aU,reduceIte,reduceCtorEq,aA,aV])|(with_reducible refine cV ?_ ?_; focus (simp only [eA]; omega))|((first|apply cJ|apply cK|apply cI)<;>intro h<;>try simp only [h]))
   all_goals exact ⟨i + 1,(cX _ rfl ⟨⟨rfl,rfl⟩,⟨rfl,rfl⟩,⟨rfl,rfl⟩,⟨rfl,rfl⟩,⟨rfl,rfl⟩,⟨rfl,rfl⟩,trivial⟩),by omega,by omega⟩
  ·intro _ hdi
   repeat' (first|(simp only [cU,hdi,cM,↓wA,↓wC,wB,cQ,cP,aS,aT,aU,reduceIte,reduceCtorEq,aA,aV])|((first|apply cJ|apply cK|apply cI)<;>intro h<;>try simp only [h]))
   cases hb:oH x s with
   | false =>
    have hR:nL x s=[]:=by simp [nL,hb]
    rw [hR]
    by_cases h4:s.length<=4000
    ·rw [if_pos h4] at hP
     repeat' (first|(simp only [cU,cZ,hb,cM,↓wA,↓wC,wB,cQ,cP,aS,aT,aU,reduceIte,reduceCtorEq,aA,aV])|(refine cO hP rfl rfl ?_)|((first|apply cJ|apply cK|apply cI)<;>intro h<;>try simp only [h]))
     all_goals rfl
    ·rw [if_neg h4] at hP
     repeat' (first|(simp only [cU,cZ,hb,cM,↓wA,↓wC,wB,cQ,cP,aS,aT,aU,reduceIte,reduceCtorEq,aA,aV])|(refine cO hP rfl rfl ?_)|((first|apply cJ|apply cK|apply cI)<;>intro h<;>try simp only [h]))
     all_goals rfl
   | true =>
    have hq:=hb
    simp only [oH,aP,decide_eq_true_eq] at hq
    rw [if_pos hq.1.2] at hP
    obtain ⟨l,ls,hp⟩:=aAM 10 s
    obtain ⟨g1,g2,rs,g3⟩:=aNf hb hp
    have hle:=rI 10 s l (by rw [hp]; exact aM ..)
    have hJ:Fn prog 15 [x.s,.str l] (fun rs=>rs=[.sl false 1 (dl D.str [(jO x l).2]),.bool true]):=by
     have h:=fE (tE x l ho (by omega))
     rw [g2,g1] at h
     simpa [D.unown,fF] using h
    rw [aP7,if_pos hq.1.1] at hF hG
    rw [hp] at hP
    rw [g3]
    generalize (jO x l).2=r at hJ
    have k1:decide (((0 + 1:Nat):Int)=1)=true:=rfl
    have k2:decide (((1:Nat):Int)=1)=true:=rfl
    have k3:∀ b:Bool,(b == b)=true:=fun b=>by cases b<;>rfl
    cases h2:decide (((ls.length + 1:Nat):Int) < 2) with
    | true =>
     repeat' (first|(simp only [cU,cZ,h2,hb,cM,↓wA,↓wC,wB,cQ,cP,aS,aT,aU,reduceIte,reduceCtorEq,aA,aV])|(refine cO hP rfl rfl ?_)|((first|apply cJ|apply cK|apply cI)<;>intro h<;>try simp only [h]))
     all_goals trace_state
    | false =>
     repeat' (first|(simp only [cU,dC,h2,hb,hss,k1,k2,k3,fF,cZ,Int.toNat_zero,List.getElem?_cons_zero,aG,aZy,aZz,aZA,aZC,↓dY,cM,↓wA,↓wC,wB,cQ,cP,aS,aT,aU,reduceIte,reduceCtorEq,aA,aV])|(refine cO hP rfl rfl ?_)|(refine cO hJ rfl rfl ?_)|(refine cR hJ rfl rfl ?_)|(refine cO hF rfl rfl ?_)|(refine cO hG rfl rfl ?_)|(refine cW (by decide) ?_)|((first|apply cJ|apply cK|apply cI)<;>intro h<;>try simp only [h]))
     all_goals trace_state
theorem lawFnScript (x0:D) (h0:mE (.sl 1 (.int .u8)) x0):Fn prog 4 [x0] (fun rs=>rs=[.bool true]):=by
 obtain ⟨code,rfl⟩:=aDo x0 h0
 exact aHV code fun h=>yO code (by omega)
end Go.Pe.Tryz
