/- The law of cases, walked. -/
import Derived.Test.YtmkmjcgkcpmmpaaGreatDoorW5
import Derived.Test.YtmkmjcgkcpmmpaaGreatDoorW4
import Derived.Test.YtmkmjcgkcpmmpaaGreatDoorPeD
import Derived.Test.YtmkmjcgkcpmmpaaGreatDoorMc1
import Derived.Test.YtmkmjcgkcpmmpaaGreatDoorMc2
import Derived.Test.YtmkmjcgkcpmmpaaGreatDoorMc3
import Derived.Test.YtmkmjcgkcpmmpaaGreatDoorMc4
import Derived.Test.YtmkmjcgkcpmmpaaGreatDoorMc5
set_option maxRecDepth 100000
set_option maxHeartbeats 4000000
set_option linter.all false
namespace Go.Pe.Tryz
open Nat (reduceEqDiff reduceAdd reduceSub reduceLT)
open Go.Proofs.Tryz
def okL (p:Cs->Bool) (o:Off):List Int:=if cM o=true then gP p o.cs else []
theorem aFu {p:Cs->Bool} {o:Off} (h:sX o):(okL p o).length<=10:=by
 unfold okL
 split
 ·exact Nat.le_trans (mU p o.cs) h.1
 ·simp
theorem xS (p:Cs->Bool) (o:Off):(aAH true p o).map D.unown=[.sl false 1 (dl iD (okL p o)),.bool (cM o)]:=by
 unfold aAH okL
 split
 ·rename_i h; simp [D.unown,c9,h]
 ·rename_i h; simp [D.unown,h]; rfl
def hL (n:Int) (o:Off):List Int:=if cM o=true/\bX n 1 9=true then gP (rN n) o.cs else []
def hY (n:Int) (o:Off):Bool:=cM o && bX n 1 9
theorem aNq {n:Int} {o:Off} (h:sX o):(hL n o).length<=10:=by
 unfold hL
 split
 ·exact Nat.le_trans (mU _ o.cs) h.1
 ·simp
theorem aFz (n:Int) (o:Off):(aGW n o).map D.unown=[.sl false 1 (dl iD (hL n o)),.bool (hY n o)]:=by
 unfold aGW hL hY
 split
 ·rename_i h; simp [D.unown,c9,h.1,h.2]
 ·rename_i h
  have e:(cM o && bX n 1 9)=false:=by
   cases h1:cM o<;>cases h2:bX n 1 9<;>simp_all
  simp [D.unown,e]; rfl
theorem aDa (o:Off) (ho:o.ok0):Fn prog 13 [o.s] (fun rs=>rs=[.sl false 1 (dl iD (okL (nK o) o)),.bool (cM o)]):=by
 rw [<- xS]; exact iV (aET o ho)
theorem aDX (o:Off) (ho:o.ok0):Fn prog 22 [o.s] (fun rs=>rs=[.sl false 1 (dl iD (okL (nK o) o)),.bool (cM o)]):=by
 rw [<- xS]; exact iV (yY o ho)
theorem aCI (o:Off) (ho:o.ok0):Fn prog 12 [o.s] (fun rs=>rs=[.sl false 1 (dl iD (okL (qI o) o)),.bool (cM o)]):=by
 rw [<- xS]; exact iV (aEX o ho)
theorem aDz (o:Off) (ho:o.ok0):Fn prog 24 [o.s] (fun rs=>rs=[.sl false 1 (dl iD (okL (qI o) o)),.bool (cM o)]):=by
 rw [<- xS]; exact iV (aE0 o ho)
theorem t7 (o:Off) (n:Int) (ho:o.ok0):Fn prog 27 [o.s,.int .i64 n] (fun rs=>rs=[.sl false 1 (dl iD (hL n o)),.bool (hY n o)]):=by
 rw [<- aFz]; exact iV (aCR o n ho)
theorem aCe (o:Off) (n:Int) (ho:o.ok0):Fn prog 28 [o.s,.int .i64 n] (fun rs=>rs=[.sl false 1 (dl iD (hL n o)),.bool (hY n o)]):=by
 rw [<- aFz]; exact iV (aCr o n ho)
theorem aFi (o:Off):∃ a b,aAT o=[.int .i64 a,.bool b]:=by
 unfold aAT
 split
 ·exact ⟨_,_,rfl⟩
 ·exact ⟨_,_,rfl⟩
theorem aE1 (o:Off) (id:Int):∃ s b,aA2 o id=[.str s,.bool b]:=by
 unfold aA2
 split
 ·split
  ·exact ⟨_,_,rfl⟩
  ·exact ⟨_,_,rfl⟩
 ·exact ⟨_,_,rfl⟩
theorem aNA {o:Off} {n:Int} (h:n∈okL (nK o) o):(okL (qI o) o).contains n=true/\gW o 6 n 0 0=none:=by
 unfold okL at h ⊢
 split at h
 ·rename_i ho
  rw [if_pos ho]
  exact ⟨aL2 h,aLH h⟩
 ·cases h
theorem aFo (code:List UInt8):Fn prog 4 [.sl false 1 (cQ code)] (fun rs=>rs=[.bool true]):=by
 have hB:=aKy code
 cases hb:decide ((65536:Int) < (code.length:Int)) with
 | true =>
  rw [hb] at hB
  refine bV (fn:=f4) (by exact func4) c4 r4 (n:=204) (by rfl) (rv:=[.tmp 2]) (by rfl) (by simp) ?_
  unfold m4
  try simp only [wQ]
  repeat' (first|(simp only [↓wA,↓wC,wB,aY,aW,reduceEqDiff,reduceAdd,reduceSub,reduceIte,reduceCtorEq,Nat.reduceBEq,reduceLT])|(refine aZ (hB) rfl rfl ?_)|(refine a6 (hB) rfl rfl ?_)|((first|apply aO|apply aQ|apply aK)<;>intro h<;>try simp only [h]))
 | false =>
  rw [hb] at hB
  have hc:code.length<=1048576:=by have:=of_decide_eq_false hb; omega
  have hbb:∀ b:Bool,(!(b == b))=false:=fun b=>by cases b<;>rfl
  refine fK (ps:=[[1,1,1,1,1,1,1,1,1,1,1,0,1,0,1,0,0],[1,1,1,1,1,1,1,1,1,1,1,1,1,1,1,1,0],[1,1,1,1,1,1,1,1,1,1,1,1,1,1,1,0],[1,1,1,1,1,1,1,1,1,1,1,1,1,0],[1,1,1,1,1,1,1,1,1,1,1,1,0],[1,1,1,1,1,1,1,1,1,0],[1,1,1,1,1,1,1,1,0],[1,1,1,0]]) (fn:=f4) (by exact func4) c4 r4 (n:=204) (by rfl) (rv:=[.tmp 2]) (by rfl) (by simp) ?_
  unfold m4
  try simp only [wQ]
  simp only [dP,eR]
  repeat' (first|(simp only [↓wA,↓wC,wB,aY,aW,reduceEqDiff,reduceAdd,reduceSub,reduceIte,reduceCtorEq,Nat.reduceBEq,reduceLT])|(refine aZ (hB) rfl rfl ?_)|(refine a6 (hB) rfl rfl ?_)|((first|apply aO|apply aQ|apply aK)<;>intro h<;>try simp only [h]))
  refine nH (aFa code hc) rfl fun rs h=>?_
  obtain ⟨o,rfl,hd⟩:=h
  have ho:=uS hd
  refine ⟨.inl rfl,?_⟩
  repeat' (first|(simp only [↓b9,↓jY,gD,iH,g9,iE,g8,gY,iF,a7,Off.s_noOwn,Off.s_isV,Off.s_size,Stp.d_noOwn,Stp.d_isV,Stp.d_size,bJ,bB,bE,hbb,aV,↓wA,↓wC,wB,aY,aW,reduceEqDiff,reduceAdd,reduceSub,reduceIte,reduceCtorEq,Nat.reduceBEq,reduceLT])|((first|apply aO|apply aQ|apply aK)<;>intro h<;>try simp only [h]))
  refine bR (gG 0 rfl) ?_
  simp only [aY,aW,Off.s_unown,Stp.d_unown,↓wA,↓wC,wB,aY,aW,reduceEqDiff,reduceAdd,reduceSub,reduceIte,reduceCtorEq,Nat.reduceBEq,reduceLT]
  have hI:=aDa o ho
  have hS:=aDX o ho
  have hI2:=aCI o ho
  have hS2:=aDz o ho
  have hbl:(okL (nK o) o).length<=10:=aFu hd
  have hdl:(okL (qI o) o).length<=10:=aFu hd
  have hin:∀ n∈okL (nK o) o,(okL (qI o) o).contains n=true/\gW o 6 n 0 0=none:=fun n=>aNA
  generalize okL (nK o) o=B at hI hS hbl hin
  generalize okL (qI o) o=Du at hI2 hS2 hdl hin
  generalize cM o=K at hI hS hI2 hS2
  have hV1:=s7 B (by omega)
  have hV2:=s7 Du (by omega)
  have hW:=aFn B Du (by omega) (by omega) fun n hn=>(hin n hn).1
  repeat' (first|(simp only [↓b9,↓jY,gD,iH,g9,iE,g8,gY,iF,a7,Off.s_noOwn,Off.s_isV,Off.s_size,Stp.d_noOwn,Stp.d_isV,Stp.d_size,bJ,bB,bE,hbb,aV,↓wA,↓wC,wB,aY,aW,reduceEqDiff,reduceAdd,reduceSub,reduceIte,reduceCtorEq,Nat.reduceBEq,reduceLT])|(refine aZ (hI) rfl rfl ?_)|(refine a6 (hI) rfl rfl ?_)|(refine aZ (hS) rfl rfl ?_)|(refine a6 (hS) rfl rfl ?_)|(refine aZ (hI2) rfl rfl ?_)|(refine a6 (hI2) rfl rfl ?_)|(refine aZ (hS2) rfl rfl ?_)|(refine a6 (hS2) rfl rfl ?_)|(refine aZ (hV1) rfl rfl ?_)|(refine a6 (hV1) rfl rfl ?_)|(refine aZ (hV2) rfl rfl ?_)|(refine a6 (hV2) rfl rfl ?_)|(refine aZ (hW) rfl rfl ?_)|(refine a6 (hW) rfl rfl ?_)|((first|apply aO|apply aQ|apply aK)<;>intro h<;>try simp only [h]))
  refine cP B.length (fun i:Nat=>⟨[(0,.d (.sl false 1 (cQ code))),(3,.d (.ptr o.s)),(4,.d (.sl false 1 (dl iD B))),(12,.d (.int .i64 i))],[.dead]⟩) (fun _=>True) (bF _ rfl ⟨⟨rfl,rfl⟩,⟨rfl,rfl⟩,⟨rfl,rfl⟩,⟨rfl,rfl⟩,trivial⟩) trivial ?_ ?_
  ·intro i hlt _ hd h0
   obtain ⟨n,hr⟩:=cK hlt
   have hF:=uT o ⟨6,n,0,0⟩ ho
   simp only [nI,lF,(hin n (List.mem_of_getElem? hr)).2,Option.getD_none,Option.isSome_none] at hF
   repeat' (first|(simp only [hd,h0,hr,bW,Int.toNat_natCast,Option.map_some,↓e9,↓b9,↓jY,gD,iH,g9,iE,g8,gY,iF,a7,Off.s_noOwn,Off.s_isV,Off.s_size,Stp.d_noOwn,Stp.d_isV,Stp.d_size,bJ,bB,bE,hbb,aV,↓wA,↓wC,wB,aY,aW,reduceEqDiff,reduceAdd,reduceSub,reduceIte,reduceCtorEq,Nat.reduceBEq,reduceLT])|(with_reducible refine bA ?_ ?_; focus (simp only [cV]; omega))|((first|apply aO|apply aQ|apply aK)<;>intro h<;>try simp only [h]))
   refine cT ?_
   repeat' (first|(simp only [hd,h0,↓b9,↓jY,gD,iH,g9,iE,g8,gY,iF,a7,Off.s_noOwn,Off.s_isV,Off.s_size,Stp.d_noOwn,Stp.d_isV,Stp.d_size,bJ,bB,bE,hbb,aV,↓wA,↓wC,wB,aY,aW,reduceEqDiff,reduceAdd,reduceSub,reduceIte,reduceCtorEq,Nat.reduceBEq,reduceLT])|(with_reducible refine And.intro ?_ ?_)|(refine aZ hF rfl rfl ?_)|(with_reducible refine bA ?_ ?_; focus (simp only [cV]; omega))|((first|apply aO|apply aQ|apply aK)<;>intro h<;>try simp only [h]))
   all_goals exact ⟨i + 1,(bF _ rfl ⟨⟨rfl,rfl⟩,⟨rfl,rfl⟩,⟨rfl,rfl⟩,⟨rfl,rfl⟩,trivial⟩),by omega,by omega⟩
  ·intro _ hd
   repeat' (first|(simp only [hd,↓b9,↓jY,gD,iH,g9,iE,g8,gY,iF,a7,Off.s_noOwn,Off.s_isV,Off.s_size,Stp.d_noOwn,Stp.d_isV,Stp.d_size,bJ,bB,bE,hbb,aV,↓wA,↓wC,wB,aY,aW,reduceEqDiff,reduceAdd,reduceSub,reduceIte,reduceCtorEq,Nat.reduceBEq,reduceLT])|((first|apply aO|apply aQ|apply aK)<;>intro h<;>try simp only [h]))
   refine bR (bF (s':=⟨[(0,.d (.sl false 1 (cQ code)))],[]⟩) _ rfl ⟨⟨rfl,rfl⟩,trivial⟩) ?_
   clear hI hS hI2 hS2 hV1 hV2 hW hin
   simp only [↓wA,↓wC,wB,aY,aW,reduceEqDiff,reduceAdd,reduceSub,reduceIte,reduceCtorEq,Nat.reduceBEq,reduceLT]
   refine nH (aCt code hc) rfl fun rs h=>?_
   obtain ⟨x,hold,rfl,hxd⟩:=h
   have hx0:=uS hxd
   refine ⟨.inl rfl,?_⟩
   repeat' (first|(simp only [↓b9,↓jY,gD,iH,g9,iE,g8,gY,iF,a7,Off.s_noOwn,Off.s_isV,Off.s_size,Stp.d_noOwn,Stp.d_isV,Stp.d_size,bJ,bB,bE,hbb,aV,↓wA,↓wC,wB,aY,aW,reduceEqDiff,reduceAdd,reduceSub,reduceIte,reduceCtorEq,Nat.reduceBEq,reduceLT])|((first|apply aO|apply aQ|apply aK)<;>intro h<;>try simp only [h]))
   refine bR (gG 0 rfl) ?_
   simp only [aY,aW,Off.s_unown,Stp.d_unown,↓wA,↓wC,wB,aY,aW,reduceEqDiff,reduceAdd,reduceSub,reduceIte,reduceCtorEq,Nat.reduceBEq,reduceLT]
   have hI:=t7 x hold hx0
   have hS:=aCe x hold hx0
   have hV:=s7 (hL hold x) (by have:=aNq (n:=hold) hxd; omega)
   repeat' (first|(simp only [↓b9,↓jY,gD,iH,g9,iE,g8,gY,iF,a7,Off.s_noOwn,Off.s_isV,Off.s_size,Stp.d_noOwn,Stp.d_isV,Stp.d_size,bJ,bB,bE,hbb,aV,↓wA,↓wC,wB,aY,aW,reduceEqDiff,reduceAdd,reduceSub,reduceIte,reduceCtorEq,Nat.reduceBEq,reduceLT])|(refine aZ (hI) rfl rfl ?_)|(refine a6 (hI) rfl rfl ?_)|(refine aZ (hS) rfl rfl ?_)|(refine a6 (hS) rfl rfl ?_)|((first|apply aO|apply aQ|apply aK)<;>intro h<;>try simp only [h]))
   refine aZ hV rfl rfl ?_
   apply aQp
   case m =>
    intro rest
    cases hf:hY hold x with
    | false =>
     repeat' (first|(simp only [↓b9,↓jY,gD,iH,g9,iE,g8,gY,iF,a7,Off.s_noOwn,Off.s_isV,Off.s_size,Stp.d_noOwn,Stp.d_isV,Stp.d_size,bJ,bB,bE,hbb,aV,↓wA,↓wC,wB,aY,aW,reduceEqDiff,reduceAdd,reduceSub,reduceIte,reduceCtorEq,Nat.reduceBEq,reduceLT])|((first|apply aO|apply aQ|apply aK)<;>intro h<;>try simp only [h]))
     refine bR (bF (s':=⟨[(0,.d (.sl false 1 (cQ code)))],[]⟩) _ rfl ⟨⟨rfl,rfl⟩,trivial⟩) ?_
     exact rest.out
    | true =>
     have hf':=hf
     rw [hY,Bool.and_eq_true] at hf'
     have hR:=aGk hf'.1 hf'.2
     have hH:=aHp hold x.cs
     have hLe:hL hold x=gP (rN hold) x.cs:=by rw [hL,if_pos hf']
     have hF:=uT x ⟨4,0,0,hold⟩ hx0
     rw [hLe]
     cases hh:oK hold x.cs with
     | true =>
      rw [hh] at hH
      simp only [hh,if_true] at hR
      simp only [nI,lF,hR,Option.getD_some,Option.isSome_some] at hF
      have hq:=aJk (v:=hold) hf'.1
      have hN:=t7 _ hold (jA hq)
      rw [hL,if_pos ⟨hq,hf'.2⟩,aIv,hY,hq,hf'.2] at hN
      generalize hQ:({ x with cs:=x.cs.map (l9 hold) }:Off)=Q at hF hN
      have d1:decide ((0:Int) < ((gP (rN hold) x.cs).length:Int))=true:=hH.symm
      repeat' (first|(simp only [d1,↓b9,↓jY,gD,iH,g9,iE,g8,gY,iF,a7,Off.s_noOwn,Off.s_isV,Off.s_size,Stp.d_noOwn,Stp.d_isV,Stp.d_size,bJ,bB,bE,hbb,aV,↓wA,↓wC,wB,aY,aW,reduceEqDiff,reduceAdd,reduceSub,reduceIte,reduceCtorEq,Nat.reduceBEq,reduceLT])|(refine aZ (hF) rfl rfl ?_)|(refine a6 (hF) rfl rfl ?_)|((first|apply aO|apply aQ|apply aK)<;>intro h<;>try simp only [h]))
      refine bR (gG 1 rfl) ?_
      simp only [aY,aW,Off.s_unown,Stp.d_unown,↓wA,↓wC,wB,aY,aW,reduceEqDiff,reduceAdd,reduceSub,reduceIte,reduceCtorEq,Nat.reduceBEq,reduceLT]
      have hz:decide (((0:Nat):Int)=0)=true:=by decide
      repeat' (first|(simp only [d1,List.length_nil,hz,↓b9,↓jY,gD,iH,g9,iE,g8,gY,iF,a7,Off.s_noOwn,Off.s_isV,Off.s_size,Stp.d_noOwn,Stp.d_isV,Stp.d_size,bJ,bB,bE,hbb,aV,↓wA,↓wC,wB,aY,aW,reduceEqDiff,reduceAdd,reduceSub,reduceIte,reduceCtorEq,Nat.reduceBEq,reduceLT])|(refine aZ (hN) rfl rfl ?_)|(refine a6 (hN) rfl rfl ?_)|((first|apply aO|apply aQ|apply aK)<;>intro h<;>try simp only [h]))
      refine bR (bF (s':=⟨[(0,.d (.sl false 1 (cQ code)))],[]⟩) _ rfl ⟨⟨rfl,rfl⟩,trivial⟩) ?_
      exact rest.out
     | false =>
      rw [hh] at hH
      rw [hh,if_neg (by decide)] at hR
      simp only [nI,lF,hR,Option.getD_none,Option.isSome_none] at hF
      have d1:decide ((0:Int) < ((gP (rN hold) x.cs).length:Int))=false:=hH.symm
      repeat' (first|(simp only [d1,↓b9,↓jY,gD,iH,g9,iE,g8,gY,iF,a7,Off.s_noOwn,Off.s_isV,Off.s_size,Stp.d_noOwn,Stp.d_isV,Stp.d_size,bJ,bB,bE,hbb,aV,↓wA,↓wC,wB,aY,aW,reduceEqDiff,reduceAdd,reduceSub,reduceIte,reduceCtorEq,Nat.reduceBEq,reduceLT])|(refine aZ (hF) rfl rfl ?_)|(refine a6 (hF) rfl rfl ?_)|((first|apply aO|apply aQ|apply aK)<;>intro h<;>try simp only [h]))
      refine bR (gG 1 rfl) ?_
      simp only [aY,aW,Off.s_unown,Stp.d_unown,↓wA,↓wC,wB,aY,aW,reduceEqDiff,reduceAdd,reduceSub,reduceIte,reduceCtorEq,Nat.reduceBEq,reduceLT]
      repeat' (first|(simp only [d1,↓b9,↓jY,gD,iH,g9,iE,g8,gY,iF,a7,Off.s_noOwn,Off.s_isV,Off.s_size,Stp.d_noOwn,Stp.d_isV,Stp.d_size,bJ,bB,bE,hbb,aV,↓wA,↓wC,wB,aY,aW,reduceEqDiff,reduceAdd,reduceSub,reduceIte,reduceCtorEq,Nat.reduceBEq,reduceLT])|((first|apply aO|apply aQ|apply aK)<;>intro h<;>try simp only [h]))
      refine bR (bF (s':=⟨[(0,.d (.sl false 1 (cQ code)))],[]⟩) _ rfl ⟨⟨rfl,rfl⟩,trivial⟩) ?_
      exact rest.out
   clear hI hS hV
   simp only [↓wA,↓wC,wB,aY,aW,reduceEqDiff,reduceAdd,reduceSub,reduceIte,reduceCtorEq,Nat.reduceBEq,reduceLT]
   refine nH (aCu code hc) rfl fun rs h=>?_
   obtain ⟨y,rfl,hyd⟩:=h
   have hy0:=uS hyd
   refine ⟨.inl rfl,?_⟩
   repeat' (first|(simp only [↓b9,↓jY,gD,iH,g9,iE,g8,gY,iF,a7,Off.s_noOwn,Off.s_isV,Off.s_size,Stp.d_noOwn,Stp.d_isV,Stp.d_size,bJ,bB,bE,hbb,aV,↓wA,↓wC,wB,aY,aW,reduceEqDiff,reduceAdd,reduceSub,reduceIte,reduceCtorEq,Nat.reduceBEq,reduceLT])|((first|apply aO|apply aQ|apply aK)<;>intro h<;>try simp only [h]))
   refine bR (gG 0 rfl) ?_
   simp only [aY,aW,Off.s_unown,Stp.d_unown,↓wA,↓wC,wB,aY,aW,reduceEqDiff,reduceAdd,reduceSub,reduceIte,reduceCtorEq,Nat.reduceBEq,reduceLT]
   have hI:=aDT aDZ y hy0
   have hS:=aD4 y hy0
   obtain ⟨a,b,hab⟩:=aFi y
   rw [hab] at hI hS
   repeat' (first|(simp only [↓b9,↓jY,gD,iH,g9,iE,g8,gY,iF,a7,Off.s_noOwn,Off.s_isV,Off.s_size,Stp.d_noOwn,Stp.d_isV,Stp.d_size,bJ,bB,bE,hbb,aV,↓wA,↓wC,wB,aY,aW,reduceEqDiff,reduceAdd,reduceSub,reduceIte,reduceCtorEq,Nat.reduceBEq,reduceLT])|(refine aZ (hI) rfl rfl ?_)|(refine a6 (hI) rfl rfl ?_)|(refine aZ (hS) rfl rfl ?_)|(refine a6 (hS) rfl rfl ?_)|((first|apply aO|apply aQ|apply aK)<;>intro h<;>try simp only [h]))
   refine bR (bF (s':=⟨[(0,.d (.sl false 1 (cQ code)))],[]⟩) _ rfl ⟨⟨rfl,rfl⟩,trivial⟩) ?_
   clear hI hS hab
   simp only [↓wA,↓wC,wB,aY,aW,reduceEqDiff,reduceAdd,reduceSub,reduceIte,reduceCtorEq,Nat.reduceBEq,reduceLT]
   refine nH (aDv code hc) rfl fun rs h=>?_
   obtain ⟨z,id,rfl,hzd⟩:=h
   have hz0:=uS hzd
   refine ⟨.inl rfl,?_⟩
   repeat' (first|(simp only [↓b9,↓jY,gD,iH,g9,iE,g8,gY,iF,a7,Off.s_noOwn,Off.s_isV,Off.s_size,Stp.d_noOwn,Stp.d_isV,Stp.d_size,bJ,bB,bE,hbb,aV,↓wA,↓wC,wB,aY,aW,reduceEqDiff,reduceAdd,reduceSub,reduceIte,reduceCtorEq,Nat.reduceBEq,reduceLT])|((first|apply aO|apply aQ|apply aK)<;>intro h<;>try simp only [h]))
   refine bR (gG 0 rfl) ?_
   simp only [aY,aW,Off.s_unown,Stp.d_unown,↓wA,↓wC,wB,aY,aW,reduceEqDiff,reduceAdd,reduceSub,reduceIte,reduceCtorEq,Nat.reduceBEq,reduceLT]
   have hI:=xK z id hz0
   have hS:=xG z id hz0
   obtain ⟨a,b,hab⟩:=aE1 z id
   rw [hab] at hI hS
   repeat' (first|(simp only [↓b9,↓jY,gD,iH,g9,iE,g8,gY,iF,a7,Off.s_noOwn,Off.s_isV,Off.s_size,Stp.d_noOwn,Stp.d_isV,Stp.d_size,bJ,bB,bE,hbb,aV,↓wA,↓wC,wB,aY,aW,reduceEqDiff,reduceAdd,reduceSub,reduceIte,reduceCtorEq,Nat.reduceBEq,reduceLT])|(refine aZ (hI) rfl rfl ?_)|(refine a6 (hI) rfl rfl ?_)|(refine aZ (hS) rfl rfl ?_)|(refine a6 (hS) rfl rfl ?_)|((first|apply aO|apply aQ|apply aK)<;>intro h<;>try simp only [h]))
theorem lawFnCases (x0:D) (h0:kD (.sl 1 (.int .u8)) x0):Fn prog 4 [x0] (fun rs=>rs=[.bool true]):=by
 obtain ⟨code,rfl⟩:=aHD x0 h0
 exact aFo code
end Go.Pe.Tryz
