/- The law of offices, walked. -/
import Derived.Test.YtmkmjcgkcpmmpaaGreatDoorW4
import Derived.Test.YtmkmjcgkcpmmpaaGreatDoorPeD
import Derived.Test.YtmkmjcgkcpmmpaaGreatDoorMc1
import Derived.Test.YtmkmjcgkcpmmpaaGreatDoorMc2
import Derived.Test.YtmkmjcgkcpmmpaaGreatDoorMc3
import Derived.Test.YtmkmjcgkcpmmpaaGreatDoorMc4
import Derived.Test.YtmkmjcgkcpmmpaaGreatDoorMc5
set_option maxRecDepth 100000
set_option maxHeartbeats 4000000
set_option linter.all false
namespace Go.Pe.Tryz
open Nat (reduceEqDiff reduceAdd reduceSub reduceLT)
open Go.Proofs.Tryz
theorem aKE {G:Prop} (T:Prop) (m:Held T->G) (r:T):G:=m ⟨r⟩
def nwO (n:Int):Off:=if aU n 0 20000=true then aEQ n else rY
theorem aGM (n:Int):(nwO n).ok0:=by
 unfold nwO
 split
 ·exact ⟨⟨Nat.zero_le _,fun x hx=>by cases hx⟩,Nat.zero_le _,fun s hs=>by cases hs⟩
 ·exact vQ
theorem aDJ (n:Int):Fn prog 44 [.int .i64 n] (fun rs=>rs=[.bool (aU n 0 20000)]):=by
 refine a8 (fn:=f44) (by exact func44) c44 r44 (n:=5) (by rfl) (rv:=[.tmp 2]) (by rfl) (by simp) ?_
 unfold m44
 try simp only [wQ]
 repeat' (first|(simp only [↓wA,↓wC,wB,aF,aE,reduceEqDiff,reduceAdd,reduceSub,reduceIte,reduceCtorEq,Nat.reduceBEq,reduceLT,aP])|(refine aG (dB n 0 20000) rfl rfl ?_)|(refine aH (dB n 0 20000) rfl rfl ?_)|((first|apply aB|apply aC|apply aA)<;>intro h<;>try simp only [h]))
theorem aAv (n:Int):Fn prog 19 [.int .i64 n] (fun rs=>rs=[(nwO n).w,.bool (aU n 0 20000)]):=by
 refine a8 (fn:=f19) (by exact func19) c19 r19 (n:=10) (by rfl) (rv:=[.cell 2 27,.tmp 3]) (by rfl) (by simp) ?_
 unfold m19
 try simp only [wQ]
 try simp only [↓wA,↓wC,wB,aF,aE,reduceEqDiff,reduceAdd,reduceSub,reduceIte,reduceCtorEq,Nat.reduceBEq,reduceLT,aP]
 refine aG (aDJ n) rfl rfl ?_
 cases h:aU n 0 20000<;>simp only [↓wA,↓wC,wB,aF,aE,reduceEqDiff,reduceAdd,reduceSub,reduceIte,reduceCtorEq,Nat.reduceBEq,reduceLT,aP]<;>simp [nwO,h]<;>rfl
theorem aA9 (n:Int):Fn prog 20 [.int .i64 n] (fun rs=>rs=[(nwO n).w,.bool (aU n 0 20000)]):=by
 refine a8 (fn:=f20) (by exact func20) c20 r20 (n:=12) (by rfl) (rv:=[.cell 2 27,.tmp 3]) (by rfl) (by simp) ?_
 unfold m20
 try simp only [wQ]
 try simp only [↓wA,↓wC,wB,aF,aE,reduceEqDiff,reduceAdd,reduceSub,reduceIte,reduceCtorEq,Nat.reduceBEq,reduceLT,aP]
 refine aG (qV n) rfl rfl ?_
 cases h:aU n 0 20000<;>simp only [↓wA,↓wC,wB,aF,aE,reduceEqDiff,reduceAdd,reduceSub,reduceIte,reduceCtorEq,Nat.reduceBEq,reduceLT,aP]<;>simp [nwO,h]<;>rfl
theorem fH {x:Off} {K:SV->Prop}:aT 2 2 (.d (.ptr x.s)) K=K (.d (.ptr (.int .i64 x.kept))):=by simp [Off.s,bD,aT,D.pre,D.nth,D.size]
theorem fL {x:Off} {K:SV->Prop}:aT 3 3 (.d (.ptr x.s)) K=K (.d (.ptr (.int .i64 x.moved))):=by simp [Off.s,bD,aT,D.pre,D.nth,D.size]
theorem fG {x:Off} {K:SV->Prop}:aT 1 1 (.d (.ptr x.s)) K=K (.d (.ptr (.sl false 4 (dl Cs.s x.cs)))):=by simp [Off.s,bD,aT,D.pre,D.nth,D.size]
theorem fM {x:Off} {K:SV->Prop}:aT 4 4 (.d (.ptr x.s)) K=K (.d (.ptr (.sl false 1 (dl D.str x.led)))):=by simp [Off.s,bD,aT,D.pre,D.nth,D.size]
theorem fJ {x:Stp} {K:SV->Prop}:aT 0 0 (.d (.ptr x.d)) K=K (.d (.ptr (.int .i64 x.k))):=by simp [Stp.d,gJ,aT,D.pre,D.nth,D.size]
theorem fE {x:Stp} {K:SV->Prop}:aT 1 1 (.d (.ptr x.d)) K=K (.d (.ptr (.int .i64 x.i))):=by simp [Stp.d,gJ,aT,D.pre,D.nth,D.size]
theorem aEB {x:Off} {ss:List Stp} (h:aAZ x ss=true):bN x=true/\qL x ss=iI x ss ss.length:=by
 unfold aAZ lM at h
 unfold qL lM
 split at h
 ·rename_i hc
  rw [Bool.and_eq_true] at hc
  refine ⟨hc.1,?_⟩
  rw [hc.1,hc.2]
  rfl
 ·cases h
theorem qN (o:Off) (s:Stp) (ho:o.ok0):Fn prog 7 [o.s,s.d] (fun rs=>rs=[(fQ o s.k s.i s.a s.v).s,.bool (fP o s.k s.i s.a s.v)]):=by
 simpa [D.unown,Off.o_unown,Stp.d] using eO (zA o s.k s.i s.a s.v ho)
theorem yS (o:Off) (s:Stp) (ho:o.ok0):Fn prog 8 [o.s,s.d] (fun rs=>rs=[(fQ o s.k s.i s.a s.v).s,.bool (fP o s.k s.i s.a s.v)]):=rG o s.k s.i s.a s.v ho
theorem aAC (o:Off) (ss:List Stp) (ho:o.ok0) (hl:ss.length<=1048576):Fn prog 16 [o.s,.sl false 4 (dl Stp.d ss)] (fun rs=>rs=[(qL o ss).1.s,.int .i64 (qL o ss).2,.bool (aAZ o ss)]):=by
 simpa [D.unown,Off.o_unown] using eO (aAq o ss ho hl)
theorem aAY (n:Int):Fn prog 19 [.int .i64 n] (fun rs=>rs=[(nwO n).s,.bool (aU n 0 20000)]):=by
 simpa [D.unown,Off.w_unown] using eO (aAv n)
theorem zV (n:Int):Fn prog 20 [.int .i64 n] (fun rs=>rs=[(nwO n).s,.bool (aU n 0 20000)]):=by
 simpa [D.unown,Off.w_unown] using eO (aA9 n)
theorem aAS (o:Off) (h:bN o=true):Fn prog 12 [o.s] (fun rs=>rs=[.sl false 1 (dl iD (iX (aC3 o) o.cs)),.bool true]):=by
 have h1:=eO (aBO o (dK h))
 rw [aC9,if_pos h] at h1
 simpa [D.unown,cH] using h1
theorem aBb (o:Off) (h:bN o=true):Fn prog 13 [o.s] (fun rs=>rs=[.sl false 1 (dl iD (iX (y4 o) o.cs)),.bool true]):=by
 have h1:=eO (aB0 o (dK h))
 rw [aC9,if_pos h] at h1
 simpa [D.unown,cH] using h1
theorem yJ (code:List UInt8):Fn prog 3 [.sl false 1 (bH code)] (fun rs=>rs=[.bool true]):=by
 have hB:=aIE code
 cases hb:decide ((65536:Int) < (code.length:Int)) with
 | true =>
  rw [hb] at hB
  refine a8 (fn:=f3) (by exact func3) c3 r3 (n:=240) (by rfl) (rv:=[.tmp 2]) (by rfl) (by simp) ?_
  unfold m3
  try simp only [wQ]
  repeat' (first|(simp only [↓wA,↓wC,wB,aF,aE,reduceEqDiff,reduceAdd,reduceSub,reduceIte,reduceCtorEq,Nat.reduceBEq,reduceLT,aP])|(refine aG (hB) rfl rfl ?_)|(refine aH (hB) rfl rfl ?_)|((first|apply aB|apply aC|apply aA)<;>intro h<;>try simp only [h]))
 | false =>
  rw [hb] at hB
  have hc:code.length<=1048576:=by have:=of_decide_eq_false hb; omega
  have hbb:∀ b:Bool,(!(b == b))=false:=fun b=>by cases b<;>rfl
  refine dL (ps:=[[1,1,1,1,1,1,1,1,1,1,1,1,1,1,0],[1,1,1,1,1,1,1,1,1,0,1,0],[1,1,1,1,1,1,1,1,1,1,1,0],[1,1,1,1,1,1,1,1,0],[1,1,1,1,1,1,1,0],[1,1,1,1,0,1,0],[1,1,1,0]]) (fn:=f3) (by exact func3) c3 r3 (n:=240) (by rfl) (rv:=[.tmp 2]) (by rfl) (by simp) ?_
  unfold m3
  try simp only [wQ]
  simp only [cI,dD]
  repeat' (first|(simp only [↓wA,↓wC,wB,aF,aE,reduceEqDiff,reduceAdd,reduceSub,reduceIte,reduceCtorEq,Nat.reduceBEq,reduceLT,aP])|(refine aG (hB) rfl rfl ?_)|(refine aH (hB) rfl rfl ?_)|((first|apply aB|apply aC|apply aA)<;>intro h<;>try simp only [h]))
  refine nT (aAm code hc) rfl fun rs h=>?_
  obtain ⟨o,s,rfl,hd,hs⟩:=h
  have ho:=vU hd
  refine ⟨.inl rfl,?_⟩
  repeat' (first|(simp only [↓bG,↓hZ,eH,fH,fL,fG,fM,fJ,fE,aJ,Off.s_noOwn,Off.s_isV,Off.s_size,Stp.d_noOwn,Stp.d_isV,Stp.d_size,aS,aM,aL,hbb,aD,↓wA,↓wC,wB,aF,aE,reduceEqDiff,reduceAdd,reduceSub,reduceIte,reduceCtorEq,Nat.reduceBEq,reduceLT,aP])|((first|apply aB|apply aC|apply aA)<;>intro h<;>try simp only [h]))
  refine aR ((dU 0 rfl).trans (dU 1 rfl)) ?_
  simp only [aF,aE,Off.s_unown,Stp.d_unown,↓wA,↓wC,wB,aF,aE,reduceEqDiff,reduceAdd,reduceSub,reduceIte,reduceCtorEq,Nat.reduceBEq,reduceLT,aP]
  have hI:=qN o s ho
  have hS:=yS o s ho
  have hX:=aDR o s.k s.i s.a s.v
  have hV:=nD _ hX
  have hO1:=fW o ho
  have hO2:=tI o ho
  repeat' (first|(simp only [↓bG,↓hZ,eH,fH,fL,fG,fM,fJ,fE,aJ,Off.s_noOwn,Off.s_isV,Off.s_size,Stp.d_noOwn,Stp.d_isV,Stp.d_size,aS,aM,aL,hbb,aD,↓wA,↓wC,wB,aF,aE,reduceEqDiff,reduceAdd,reduceSub,reduceIte,reduceCtorEq,Nat.reduceBEq,reduceLT,aP])|(refine aG (hI) rfl rfl ?_)|(refine aH (hI) rfl rfl ?_)|(refine aG (hS) rfl rfl ?_)|(refine aH (hS) rfl rfl ?_)|((first|apply aB|apply aC|apply aA)<;>intro h<;>try simp only [h]))
  refine aR ((dU 2 rfl).trans (dU 3 rfl)) ?_
  simp only [aF,aE,Off.s_unown,Stp.d_unown,↓wA,↓wC,wB,aF,aE,reduceEqDiff,reduceAdd,reduceSub,reduceIte,reduceCtorEq,Nat.reduceBEq,reduceLT,aP]
  have hO3:=fW _ hX
  generalize hXe:fQ o s.k s.i s.a s.v=X at *
  generalize hYe:fP o s.k s.i s.a s.v=Y at *
  apply aKE
  case m =>
   intro rest
   cases hR:d6 o s.k s.i s.a s.v with
   | none =>
    have e1:X=rY:=by rw [<- hXe]; unfold fQ; rw [hR]; rfl
    have e2:Y=false:=by rw [<- hYe]; unfold fP; rw [hR]; rfl
    repeat' (first|(simp only [e2,↓bG,↓hZ,eH,fH,fL,fG,fM,fJ,fE,aJ,Off.s_noOwn,Off.s_isV,Off.s_size,Stp.d_noOwn,Stp.d_isV,Stp.d_size,aS,aM,aL,hbb,aD,↓wA,↓wC,wB,aF,aE,reduceEqDiff,reduceAdd,reduceSub,reduceIte,reduceCtorEq,Nat.reduceBEq,reduceLT,aP])|(refine aH hV rfl rfl ?_)|(refine aH hO1 rfl rfl ?_)|(refine aH hO2 rfl rfl ?_)|((first|apply aB|apply aC|apply aA)<;>intro h<;>try simp only [h]))
    refine aR (aN (s':=⟨[(0,.d (.sl false 1 (bH code)))],[]⟩) _ rfl ⟨⟨rfl,rfl⟩,trivial⟩) ?_
    exact rest.out
   | some q =>
    have e1:X=q:=by rw [<- hXe]; unfold fQ; rw [hR]; rfl
    have e2:Y=true:=by rw [<- hYe]; unfold fP; rw [hR]; rfl
    have hq:=n6 hR
    have hoo:=(uH hR).1
    subst e1
    rw [hq] at hO3
    rw [hoo] at hO1 hO2
    have pq:=bT hq
    have po:=bT hoo
    cases h6:decide (s.k=6) with
    | true =>
     have hk6:=of_decide_eq_true h6
     rw [hk6] at hR
     obtain ⟨a1,a2,a3⟩:=aHV hR
     have hD:=aAS o hoo
     have hK:=aBb o hoo
     have hil:∀ p:Cs->Bool,(iX p o.cs).length<=1048576:=fun p=>Nat.le_trans (x2 p o.cs) (by omega)
     have hH1:=aCy (iX (aC3 o) o.cs) s.i (hil _)
     have hH2:=aCy (iX (y4 o) o.cs) s.i (hil _)
     rw [a1] at hH1
     rw [a2] at hH2
     have d1:decide ((X.cs.length:Int) + X.kept + X.moved + X.led.length=o.cs.length + o.kept + o.moved + o.led.length)=true:=decide_eq_true a3
     repeat' (first|(simp only [e2,h6,d1,↓bG,↓hZ,eH,fH,fL,fG,fM,fJ,fE,aJ,Off.s_noOwn,Off.s_isV,Off.s_size,Stp.d_noOwn,Stp.d_isV,Stp.d_size,aS,aM,aL,hbb,aD,↓wA,↓wC,wB,aF,aE,reduceEqDiff,reduceAdd,reduceSub,reduceIte,reduceCtorEq,Nat.reduceBEq,reduceLT,aP])|(refine aG (hD) rfl rfl ?_)|(refine aH (hD) rfl rfl ?_)|(refine aG (hK) rfl rfl ?_)|(refine aH (hK) rfl rfl ?_)|(refine aG (hH1) rfl rfl ?_)|(refine aH (hH1) rfl rfl ?_)|(refine aG (hH2) rfl rfl ?_)|(refine aH (hH2) rfl rfl ?_)|(refine aH hV rfl rfl ?_)|(refine aH hO1 rfl rfl ?_)|(refine aH hO2 rfl rfl ?_)|(refine aH hO3 rfl rfl ?_)|(with_reducible refine aI ?_ ?_; focus (simp only [bQ]; omega))|((first|apply aB|apply aC|apply aA)<;>intro h<;>try simp only [h]))
     refine aR (aN (s':=⟨[(0,.d (.sl false 1 (bH code)))],[]⟩) _ rfl ⟨⟨rfl,rfl⟩,trivial⟩) ?_
     exact rest.out
    | false =>
     have hll:=aHF hR (of_decide_eq_false h6)
     have d1:decide ((X.led.length:Int)=(o.led.length:Int))=true:=decide_eq_true (by omega)
     repeat' (first|(simp only [e2,h6,d1,↓bG,↓hZ,eH,fH,fL,fG,fM,fJ,fE,aJ,Off.s_noOwn,Off.s_isV,Off.s_size,Stp.d_noOwn,Stp.d_isV,Stp.d_size,aS,aM,aL,hbb,aD,↓wA,↓wC,wB,aF,aE,reduceEqDiff,reduceAdd,reduceSub,reduceIte,reduceCtorEq,Nat.reduceBEq,reduceLT,aP])|(refine aH hV rfl rfl ?_)|(refine aH hO1 rfl rfl ?_)|(refine aH hO2 rfl rfl ?_)|(refine aH hO3 rfl rfl ?_)|(with_reducible refine aI ?_ ?_; focus (simp only [bQ]; omega))|((first|apply aB|apply aC|apply aA)<;>intro h<;>try simp only [h]))
     refine aR (aN (s':=⟨[(0,.d (.sl false 1 (bH code)))],[]⟩) _ rfl ⟨⟨rfl,rfl⟩,trivial⟩) ?_
     exact rest.out
  clear hI hS hX hV hO1 hO2 hO3 hXe hYe hd hs ho
  simp only [↓wA,↓wC,wB,aF,aE,reduceEqDiff,reduceAdd,reduceSub,reduceIte,reduceCtorEq,Nat.reduceBEq,reduceLT,aP]
  refine nT (aCl code hc) rfl fun rs h=>?_
  obtain ⟨x,ss,rfl,hxd,hsl⟩:=h
  have hx0:=vU hxd
  have hno:=eT ss
  refine ⟨.inl rfl,?_⟩
  repeat' (first|(simp only [hno,↓bG,↓hZ,eH,fH,fL,fG,fM,fJ,fE,aJ,Off.s_noOwn,Off.s_isV,Off.s_size,Stp.d_noOwn,Stp.d_isV,Stp.d_size,aS,aM,aL,hbb,aD,↓wA,↓wC,wB,aF,aE,reduceEqDiff,reduceAdd,reduceSub,reduceIte,reduceCtorEq,Nat.reduceBEq,reduceLT,aP])|((first|apply aB|apply aC|apply aA)<;>intro h<;>try simp only [h]))
  refine aR (dU 0 rfl) ?_
  simp only [aF,aE,Off.s_unown,Stp.d_unown,↓wA,↓wC,wB,aF,aE,reduceEqDiff,reduceAdd,reduceSub,reduceIte,reduceCtorEq,Nat.reduceBEq,reduceLT,aP]
  have hI:=aAC x ss hx0 (by omega)
  have hS:=aAr x ss hx0 (by omega)
  have hX:=aFO x ss
  have hV:=nD _ hX
  generalize hXe:(qL x ss).1=X at hI hS hX hV
  generalize hNe:(qL x ss).2=N at hI hS
  generalize hYe:aAZ x ss=Y at hI hS
  repeat' (first|(simp only [hno,↓bG,↓hZ,eH,fH,fL,fG,fM,fJ,fE,aJ,Off.s_noOwn,Off.s_isV,Off.s_size,Stp.d_noOwn,Stp.d_isV,Stp.d_size,aS,aM,aL,hbb,aD,↓wA,↓wC,wB,aF,aE,reduceEqDiff,reduceAdd,reduceSub,reduceIte,reduceCtorEq,Nat.reduceBEq,reduceLT,aP])|(refine aG (hI) rfl rfl ?_)|(refine aH (hI) rfl rfl ?_)|(refine aG (hS) rfl rfl ?_)|(refine aH (hS) rfl rfl ?_)|((first|apply aB|apply aC|apply aA)<;>intro h<;>try simp only [h]))
  refine aR ((dU 1 rfl).trans (dU 2 rfl)) ?_
  simp only [aF,aE,Off.s_unown,Stp.d_unown,↓wA,↓wC,wB,aF,aE,reduceEqDiff,reduceAdd,reduceSub,reduceIte,reduceCtorEq,Nat.reduceBEq,reduceLT,aP]
  apply aKE
  case m =>
   intro rest
   cases Y with
   | false =>
    repeat' (first|(simp only [hno,↓bG,↓hZ,eH,fH,fL,fG,fM,fJ,fE,aJ,Off.s_noOwn,Off.s_isV,Off.s_size,Stp.d_noOwn,Stp.d_isV,Stp.d_size,aS,aM,aL,hbb,aD,↓wA,↓wC,wB,aF,aE,reduceEqDiff,reduceAdd,reduceSub,reduceIte,reduceCtorEq,Nat.reduceBEq,reduceLT,aP])|(refine aG hV rfl rfl ?_)|((first|apply aB|apply aC|apply aA)<;>intro h<;>try simp only [h]))
    refine aR (aN (s':=⟨[(0,.d (.sl false 1 (bH code)))],[]⟩) _ rfl ⟨⟨rfl,rfl⟩,trivial⟩) ?_
    exact rest.out
   | true =>
    obtain ⟨hxo,hrun⟩:=aEB hYe
    repeat' (first|(simp only [hno,↓bG,↓hZ,eH,fH,fL,fG,fM,fJ,fE,aJ,Off.s_noOwn,Off.s_isV,Off.s_size,Stp.d_noOwn,Stp.d_isV,Stp.d_size,aS,aM,aL,hbb,aD,↓wA,↓wC,wB,aF,aE,reduceEqDiff,reduceAdd,reduceSub,reduceIte,reduceCtorEq,Nat.reduceBEq,reduceLT,aP])|(refine aG hV rfl rfl ?_)|((first|apply aB|apply aC|apply aA)<;>intro h<;>try simp only [h]))
    refine bL ss.length (fun i:Nat=>⟨[(0,.d (.sl false 1 (bH code))),(16,.d (.sl false 4 (dl Stp.d ss))),(17,.d (.ptr X.s)),(18,.d (.int .i64 N)),(23,.ptr 3 0 []),(24,.d (.int .i64 (iI x ss i).2)),(25,.d (.int .i64 i))],[.dead,.dead,.dead,.box (iI x ss i).1.s]⟩) (fun _=>True) (aN _ rfl ⟨⟨rfl,rfl⟩,⟨rfl,rfl⟩,⟨rfl,rfl⟩,⟨rfl,rfl⟩,⟨rfl,rfl⟩,⟨rfl,rfl⟩,⟨rfl,rfl⟩,trivial⟩) trivial ?_ ?_
    ·intro i hlt _ hd h0
     obtain ⟨s,hr⟩:=bM hlt
     have hP:=qM (ss:=ss) hxo i (by omega)
     have hn:=o7 (o:=x) hr
     have hP2:=hP.2.2
     have hP1:=hP.2.1
     have hF:=qN (iI x ss i).1 s (dK hP.1)
     generalize hPe:iI x ss i=P at hn hP2 hP1 hF ⊢
     obtain ⟨p1,p2⟩:=P
     simp only at hn hP2 hP1 hF ⊢
     unfold rE at hn
     unfold fQ fP at hF
     simp only at hn
     cases hR:d6 p1 s.k s.i s.a s.v with
     | none =>
      rw [hR] at hn hF
      simp only [Option.getD_none,Option.isSome_none] at hn hF
      repeat' (first|(simp only [hd,h0,hr,aX,Int.toNat_natCast,Option.map_some,↓bG,↓hZ,eH,fH,fL,fG,fM,fJ,fE,aJ,Off.s_noOwn,Off.s_isV,Off.s_size,Stp.d_noOwn,Stp.d_isV,Stp.d_size,aS,aM,aL,hbb,aD,↓wA,↓wC,wB,aF,aE,reduceEqDiff,reduceAdd,reduceSub,reduceIte,reduceCtorEq,Nat.reduceBEq,reduceLT,aP])|(refine aG (hF) rfl rfl ?_)|(refine aH (hF) rfl rfl ?_)|(refine bO ?_)|(with_reducible refine And.intro ?_ ?_)|(with_reducible refine aI ?_ ?_; focus (simp only [bQ]; omega))|((first|apply aB|apply aC|apply aA)<;>intro h<;>try simp only [h]))
      all_goals exact ⟨i + 1,by rw [hn]; exact (aN _ rfl ⟨⟨rfl,rfl⟩,⟨rfl,rfl⟩,⟨rfl,rfl⟩,⟨rfl,rfl⟩,⟨rfl,rfl⟩,⟨rfl,rfl⟩,⟨rfl,rfl⟩,trivial⟩),by omega,by omega⟩
     | some q =>
      rw [hR] at hn hF
      simp only [Option.getD_some,Option.isSome_some] at hn hF
      repeat' (first|(simp only [hd,h0,hr,aX,Int.toNat_natCast,Option.map_some,↓bG,↓hZ,eH,fH,fL,fG,fM,fJ,fE,aJ,Off.s_noOwn,Off.s_isV,Off.s_size,Stp.d_noOwn,Stp.d_isV,Stp.d_size,aS,aM,aL,hbb,aD,↓wA,↓wC,wB,aF,aE,reduceEqDiff,reduceAdd,reduceSub,reduceIte,reduceCtorEq,Nat.reduceBEq,reduceLT,aP])|(refine aG (hF) rfl rfl ?_)|(refine aH (hF) rfl rfl ?_)|(refine bO ?_)|(with_reducible refine And.intro ?_ ?_)|(with_reducible refine aI ?_ ?_; focus (simp only [bQ]; omega))|((first|apply aB|apply aC|apply aA)<;>intro h<;>try simp only [h]))
      all_goals exact ⟨i + 1,by rw [hn]; exact (aN _ rfl ⟨⟨rfl,rfl⟩,⟨rfl,rfl⟩,⟨rfl,rfl⟩,⟨rfl,rfl⟩,⟨rfl,rfl⟩,⟨rfl,rfl⟩,⟨rfl,rfl⟩,trivial⟩),by omega,by omega⟩
    ·intro _ hd
     have hX2:(iI x ss ss.length).1=X:=by rw [<- hXe,hrun]
     have hN2:(iI x ss ss.length).2=N:=by rw [<- hNe,hrun]
     rw [hX2,hN2]
     have d1:decide (N=N)=true:=decide_eq_true rfl
     repeat' (first|(simp only [hd,d1,↓bG,↓hZ,eH,fH,fL,fG,fM,fJ,fE,aJ,Off.s_noOwn,Off.s_isV,Off.s_size,Stp.d_noOwn,Stp.d_isV,Stp.d_size,aS,aM,aL,hbb,aD,↓wA,↓wC,wB,aF,aE,reduceEqDiff,reduceAdd,reduceSub,reduceIte,reduceCtorEq,Nat.reduceBEq,reduceLT,aP])|(refine aG hV rfl rfl ?_)|((first|apply aB|apply aC|apply aA)<;>intro h<;>try simp only [h]))
     refine aR (aN (s':=⟨[(0,.d (.sl false 1 (bH code)))],[]⟩) _ rfl ⟨⟨rfl,rfl⟩,trivial⟩) ?_
     exact rest.out
  clear hI hS hX hV hXe hNe hYe hno hx0 hxd hsl
  simp only [↓wA,↓wC,wB,aF,aE,reduceEqDiff,reduceAdd,reduceSub,reduceIte,reduceCtorEq,Nat.reduceBEq,reduceLT,aP]
  refine nT (wW code hc) rfl fun rs h=>?_
  obtain ⟨n,rfl⟩:=h
  refine ⟨.inl rfl,?_⟩
  have hI:=aAY n
  have hS:=zV n
  have hV:=nD _ (aGM n)
  generalize nwO n=X at hI hS hV
  generalize aU n 0 20000=Y at hI hS
  repeat' (first|(simp only [↓bG,↓hZ,eH,fH,fL,fG,fM,fJ,fE,aJ,Off.s_noOwn,Off.s_isV,Off.s_size,Stp.d_noOwn,Stp.d_isV,Stp.d_size,aS,aM,aL,hbb,aD,↓wA,↓wC,wB,aF,aE,reduceEqDiff,reduceAdd,reduceSub,reduceIte,reduceCtorEq,Nat.reduceBEq,reduceLT,aP])|(refine aG (hI) rfl rfl ?_)|(refine aH (hI) rfl rfl ?_)|(refine aG (hS) rfl rfl ?_)|(refine aH (hS) rfl rfl ?_)|((first|apply aB|apply aC|apply aA)<;>intro h<;>try simp only [h]))
  refine aR ((dU 0 rfl).trans (dU 1 rfl)) ?_
  simp only [aF,aE,Off.s_unown,Stp.d_unown,↓wA,↓wC,wB,aF,aE,reduceEqDiff,reduceAdd,reduceSub,reduceIte,reduceCtorEq,Nat.reduceBEq,reduceLT,aP]
  repeat' (first|(simp only [↓bG,↓hZ,eH,fH,fL,fG,fM,fJ,fE,aJ,Off.s_noOwn,Off.s_isV,Off.s_size,Stp.d_noOwn,Stp.d_isV,Stp.d_size,aS,aM,aL,hbb,aD,↓wA,↓wC,wB,aF,aE,reduceEqDiff,reduceAdd,reduceSub,reduceIte,reduceCtorEq,Nat.reduceBEq,reduceLT,aP])|(refine aG hV rfl rfl ?_)|(refine aH hV rfl rfl ?_)|((first|apply aB|apply aC|apply aA)<;>intro h<;>try simp only [h]))
theorem aHx (x:D) (h:gQ (.int .u8) x):∃ b:UInt8,x=.int .u8 (b.toNat:Int)/\True:=by
 obtain ⟨n,rfl,hn⟩:=h
 have hr:0<=n/\n<=255:=by
  simp only [Lit.wf,Bool.and_eq_true,decide_eq_true_eq] at hn
  exact hn
 refine ⟨UInt8.ofNat n.toNat,?_,trivial⟩
 have:(UInt8.ofNat n.toNat).toNat=n.toNat:=by
  rw [UInt8.toNat_ofNat']
  omega
 rw [this,Int.toNat_of_nonneg hr.1]
theorem aEr (x:D) (h:gQ (.sl 1 (.int .u8)) x):∃ code:List UInt8,x=.sl false 1 (bH code):=by
 obtain ⟨ds,rfl,h1,h2⟩:=h
 obtain ⟨ys,h3,_,_⟩:=t6 (f:=fun b:UInt8=>D.int .u8 (b.toNat:Int)) (P:=fun _=>True) aHx ds h2
 exact ⟨ys,by rw [h3,aDO]⟩
theorem lawFnOffices (x0:D) (h0:gQ (.sl 1 (.int .u8)) x0):Fn prog 3 [x0] (fun rs=>rs=[.bool true]):=by
 obtain ⟨code,rfl⟩:=aEr x0 h0
 exact yJ code
end Go.Pe.Tryz
