/- Steps of an office: the reference's own copy; walked; Steps of an office: the reference's l25Step, l25Enter; walked; Steps of an office: the reference's l25Release; walked; Steps of an office: the reference's l25Act; walked; A party heard, walked; A party heard as the reference has it, walked; Steps of an office: the reference's l25Make; walked; Steps of an office: the reference's StepOffice and RunOffice; walked; Steps of an office: the law of StepOffice; Runs of steps of an office: the reference's RunOffice; walked; Runs of steps of an office: the law of RunOffice; Runs of steps of an office: the law of RunOffice, walked; What draws, by a cursor whose bytes are told by their value: a byte, a number, once in n times, one of some numbers -/
import Derived.Test.YtmkmjcgkcpmmpaaGreatDoorW2
import Derived.Test.YtmkmjcgkcpmmpaaGreatDoorPeD
import Derived.Test.YtmkmjcgkcpmmpaaGreatDoorMc1
import Derived.Test.YtmkmjcgkcpmmpaaGreatDoorMc2
import Derived.Test.YtmkmjcgkcpmmpaaGreatDoorMc3
import Derived.Test.YtmkmjcgkcpmmpaaGreatDoorMc4
import Derived.Test.YtmkmjcgkcpmmpaaGreatDoorMc5
import Derived.Test.YtmkmjcgkcpmmpaaGreatDoorW1
set_option maxRecDepth 100000
set_option maxHeartbeats 4000000
set_option linter.all false
namespace Go.Pe.Tryz
open Nat (reduceEqDiff reduceAdd reduceSub reduceLT)
open Go.Proofs.Tryz
theorem aKQ {P:PG} {un lv:List Nat} {p:MP} {s:St} {Q:Exit->St->Prop} (J:St->Prop) (h:cN P un p [] s fun s'=>J ⟨jY lv s'.e,s'.o⟩) (h2:∀ s',J s'->∃ s1,cT s' s1/\Q .normal s1):bZ P (.any un lv p) s Q:=⟨J,h,h2⟩
def zO:D:=.st (.cons (.int .i64 0) (.cons (.sl true 4 .nil) (.cons (.int .i64 0) (.cons (.int .i64 0) (.cons (.sl true 1 .nil) .nil)))))
def Off.w (o:Off):D:=bD o (.sl true 4 (dl Cs.s o.cs)) (.sl true 1 (dl D.str o.led))
def aAj (o:Off) (j:Nat) (l:List Ob):St:=⟨[(1,.d (.ptr o.s)),(2,.ptr 1 0 []),(3,.ptr j 0 [])],.dead :: .box zO :: (l ++ [.box (bD o (.sl true 4 .nil) (.sl true 1 (dl D.str o.led)))])⟩
theorem aFf {F:(St->Prop)->Prop} {Q:St->Prop} (J:St->Prop) (h:F J) (h2:∀ s',J s'->∃ s1,cT s' s1/\Q s1):onJ F Q:=⟨J,h,h2⟩
theorem o4 (v:List Int) (hlen:v.length<=1048576):Fn prog 89 [.sl false 1 (dl iD v)] (fun rs=>rs=[.sl true 1 (dl iD v)]):=by
 refine a8 (fn:=f89) (by exact func89) c89 r89 (n:=6) (by rfl) (rv:=[.tmp 2]) (by rfl) (by simp) ?_
 unfold m89
 try simp only [wQ]
 simp only [aJ,↓wA,↓wC,wB,aF,aE,reduceEqDiff,reduceAdd,reduceSub,reduceIte,reduceCtorEq,Nat.reduceBEq,reduceLT,aP]
 refine aQ ⟨by omega,by omega⟩ ?_
 simp only [↓wA,↓wC,wB,aF,aE,reduceEqDiff,reduceAdd,reduceSub,reduceIte,reduceCtorEq,Nat.reduceBEq,reduceLT,aP]
theorem fA (o:Off) (ho:o.ok0):Fn prog 52 [o.s] (fun rs=>rs=[o.w]):=by
 have hlen:=ho.1.1
 have hlen2:=ho.2.1
 refine dL (ps:=[[1,1,0,1,0,0,1,0,0,1],[1,1,0,1,0,0,1,0,0,1],[1,0]]) (fn:=f52) (by exact func52) c52 r52 (n:=46) (by rfl) (rv:=[.cell 2 27]) (by rfl) (by simp) ?_
 unfold m52
 try simp only [wQ]
 simp only [cI,dD]
 simp only [Off.s,bD]
 repeat' (first|(simp only [aM,aL,aD,aJ,↓wA,↓wC,wB,aF,aE,reduceEqDiff,reduceAdd,reduceSub,reduceIte,reduceCtorEq,Nat.reduceBEq,reduceLT,aP])|((first|apply aB|apply aC|apply aA)<;>intro h<;>try simp only [h]))
 refine aR (dU 0 rfl) ?_
 simp only [aF,aE,D.unown,dA,gY,aM,aL,aD,aJ,↓wA,↓wC,wB,aF,aE,reduceEqDiff,reduceAdd,reduceSub,reduceIte,reduceCtorEq,Nat.reduceBEq,reduceLT,aP]
 refine aFf (fun s=>cT s (aAj o 2 [])\/cT s (aAj o 3 [.dead])\/cT s (aAj o 4 [.dead,.dead])\/cT s (aAj o 5 [.dead,.dead,.dead])) ?_ ?_
 ·repeat' (first
   |(with_reducible refine And.intro ?_ ?_)
   |(with_reducible refine aQ ?_ ?_; focus omega))
  all_goals (first|exact .inl (aN _ rfl ⟨⟨rfl,rfl⟩,⟨rfl,rfl⟩,⟨rfl,rfl⟩,trivial⟩)|exact .inr (.inl (aN _ rfl ⟨⟨rfl,rfl⟩,⟨rfl,rfl⟩,⟨rfl,rfl⟩,trivial⟩))|exact .inr (.inr (.inl (aN _ rfl ⟨⟨rfl,rfl⟩,⟨rfl,rfl⟩,⟨rfl,rfl⟩,trivial⟩)))|exact .inr (.inr (.inr (aN _ rfl ⟨⟨rfl,rfl⟩,⟨rfl,rfl⟩,⟨rfl,rfl⟩,trivial⟩)))|trace_state)
 ·rintro s' (h|h|h|h)
  ·refine ⟨_,h,?_⟩
   simp only [aAj,List.cons_append,List.nil_append,↓wA,↓wC,wB,aF,aE,reduceEqDiff,reduceAdd,reduceSub,reduceIte,reduceCtorEq,Nat.reduceBEq,reduceLT,aP]
   refine bL o.cs.length (fun i:Nat=>⟨[(1,.d (.ptr o.s)),(2,.ptr 1 0 []),(3,.ptr 2 0 []),(4,.d (.int .i64 i))],.dead :: .box zO :: ([] ++ [.box (bD o (.sl true 4 (dl Cs.s (o.cs.take i))) (.sl true 1 (dl D.str o.led)))])⟩) (fun _=>True) ?_ trivial ?_ ?_
   ·exact (aN _ rfl ⟨⟨rfl,rfl⟩,⟨rfl,rfl⟩,⟨rfl,rfl⟩,⟨rfl,rfl⟩,trivial⟩)
   ·intro i hlt _ hd h0
    obtain ⟨x,hr⟩:=bM hlt
    have h1:Fn prog 89 [.sl false 1 (dl iD x.h)] (fun rs=>rs=[.sl false 1 (dl iD x.h)]):=by
     have h:=eO (o4 x.h (ho.1.2 x (List.mem_of_getElem? hr)))
     simpa [D.unown,cH] using h
    simp only [Off.s,bD,List.cons_append,List.nil_append]
    repeat' (first|(simp only [aJ,hd,h0,aX,Int.toNat_natCast,hr,Option.map_some,aD,aM,aL,↓fS,Cs.s_isV,Cs.s_size,↓wA,↓wC,wB,aF,aE,reduceEqDiff,reduceAdd,reduceSub,reduceIte,reduceCtorEq,Nat.reduceBEq,reduceLT,aP])|(refine aI (by simp only [bQ]; omega) ?_)|((first|apply aB|apply aC|apply aA)<;>intro h<;>try simp only [h]))
    refine aR (dU 3 rfl) ?_
    simp only [aF,aE,Cs.s_unown,↓wA,↓wC,wB,aF,aE,reduceEqDiff,reduceAdd,reduceSub,reduceIte,reduceCtorEq,Nat.reduceBEq,reduceLT,aP]
    refine cB _ (cU 2 none [1] (es:=4) (xs:=dl Cs.s (o.cs.take i)) rfl rfl) fun v1=>?_
    simp only [bR,Cs.s,Cs.p,aM,aL,aD,aJ,↓wA,↓wC,wB,aF,aE,reduceEqDiff,reduceAdd,reduceSub,reduceIte,reduceCtorEq,Nat.reduceBEq,reduceLT,aP]
    repeat' (first|(simp only [aJ,hd,h0,aD,aM,aL,aS,↓wA,↓wC,wB,aF,aE,reduceEqDiff,reduceAdd,reduceSub,reduceIte,reduceCtorEq,Nat.reduceBEq,reduceLT,aP])|(refine bO ?_)|(refine aG h1 rfl rfl ?_)|(with_reducible refine aQ ?_ ?_; focus omega)|(refine aI (by simp only [bQ]; omega) ?_)|((first|apply aB|apply aC|apply aA)<;>intro h<;>try simp only [h]))
    refine aQ (by simp) ?_
    have hl:(o.cs.take i).length=i:=by simp; omega
    refine aQ (by rw [hl]; omega) ?_
    refine aI (by simp only [bQ]; omega) ?_
    refine ⟨i + 1,?_,by omega,by omega⟩
    have happ:(dl Cs.s (o.cs.take i)).app ((D.st (.cons (.int .i64 x.i) (.cons (.int .i64 x.a) (.cons (.int .i64 x.d) (.cons (.sl false 1 (dl iD x.h)) .nil))))).cons .nil)=dl Cs.s (o.cs.take (i + 1)):=(eZ (f:=Cs.s) (o.cs.take i) x).trans (by rw [fX hr])
    rw [happ]
    exact (aN _ rfl ⟨⟨rfl,rfl⟩,⟨rfl,rfl⟩,⟨rfl,rfl⟩,⟨rfl,rfl⟩,trivial⟩)
   ·intro _ hd
    rw [List.take_length]
    simp only [Off.s,bD,List.cons_append,List.nil_append]
    repeat' (first|(simp only [aJ,hd,aD,↓wA,↓wC,wB,aF,aE,reduceEqDiff,reduceAdd,reduceSub,reduceIte,reduceCtorEq,Nat.reduceBEq,reduceLT,aP])|((first|apply aB|apply aC|apply aA)<;>intro h<;>try simp only [h]))
    exact aQ (aM _) (aQ rfl (aQ rfl rfl))
  ·refine ⟨_,h,?_⟩
   simp only [aAj,List.cons_append,List.nil_append,↓wA,↓wC,wB,aF,aE,reduceEqDiff,reduceAdd,reduceSub,reduceIte,reduceCtorEq,Nat.reduceBEq,reduceLT,aP]
   refine bL o.cs.length (fun i:Nat=>⟨[(1,.d (.ptr o.s)),(2,.ptr 1 0 []),(3,.ptr 3 0 []),(4,.d (.int .i64 i))],.dead :: .box zO :: ([.dead] ++ [.box (bD o (.sl true 4 (dl Cs.s (o.cs.take i))) (.sl true 1 (dl D.str o.led)))])⟩) (fun _=>True) ?_ trivial ?_ ?_
   ·exact (aN _ rfl ⟨⟨rfl,rfl⟩,⟨rfl,rfl⟩,⟨rfl,rfl⟩,⟨rfl,rfl⟩,trivial⟩)
   ·intro i hlt _ hd h0
    obtain ⟨x,hr⟩:=bM hlt
    have h1:Fn prog 89 [.sl false 1 (dl iD x.h)] (fun rs=>rs=[.sl false 1 (dl iD x.h)]):=by
     have h:=eO (o4 x.h (ho.1.2 x (List.mem_of_getElem? hr)))
     simpa [D.unown,cH] using h
    simp only [Off.s,bD,List.cons_append,List.nil_append]
    repeat' (first|(simp only [aJ,hd,h0,aX,Int.toNat_natCast,hr,Option.map_some,aD,aM,aL,↓fS,Cs.s_isV,Cs.s_size,↓wA,↓wC,wB,aF,aE,reduceEqDiff,reduceAdd,reduceSub,reduceIte,reduceCtorEq,Nat.reduceBEq,reduceLT,aP])|(refine aI (by simp only [bQ]; omega) ?_)|((first|apply aB|apply aC|apply aA)<;>intro h<;>try simp only [h]))
    refine aR (dU 4 rfl) ?_
    simp only [aF,aE,Cs.s_unown,↓wA,↓wC,wB,aF,aE,reduceEqDiff,reduceAdd,reduceSub,reduceIte,reduceCtorEq,Nat.reduceBEq,reduceLT,aP]
    refine cB _ (cU 3 none [1] (es:=4) (xs:=dl Cs.s (o.cs.take i)) rfl rfl) fun v1=>?_
    simp only [bR,Cs.s,Cs.p,aM,aL,aD,aJ,↓wA,↓wC,wB,aF,aE,reduceEqDiff,reduceAdd,reduceSub,reduceIte,reduceCtorEq,Nat.reduceBEq,reduceLT,aP]
    repeat' (first|(simp only [aJ,hd,h0,aD,aM,aL,aS,↓wA,↓wC,wB,aF,aE,reduceEqDiff,reduceAdd,reduceSub,reduceIte,reduceCtorEq,Nat.reduceBEq,reduceLT,aP])|(refine bO ?_)|(refine aG h1 rfl rfl ?_)|(with_reducible refine aQ ?_ ?_; focus omega)|(refine aI (by simp only [bQ]; omega) ?_)|((first|apply aB|apply aC|apply aA)<;>intro h<;>try simp only [h]))
    refine aQ (by simp) ?_
    have hl:(o.cs.take i).length=i:=by simp; omega
    refine aQ (by rw [hl]; omega) ?_
    refine aI (by simp only [bQ]; omega) ?_
    refine ⟨i + 1,?_,by omega,by omega⟩
    have happ:(dl Cs.s (o.cs.take i)).app ((D.st (.cons (.int .i64 x.i) (.cons (.int .i64 x.a) (.cons (.int .i64 x.d) (.cons (.sl false 1 (dl iD x.h)) .nil))))).cons .nil)=dl Cs.s (o.cs.take (i + 1)):=(eZ (f:=Cs.s) (o.cs.take i) x).trans (by rw [fX hr])
    rw [happ]
    exact (aN _ rfl ⟨⟨rfl,rfl⟩,⟨rfl,rfl⟩,⟨rfl,rfl⟩,⟨rfl,rfl⟩,trivial⟩)
   ·intro _ hd
    rw [List.take_length]
    simp only [Off.s,bD,List.cons_append,List.nil_append]
    repeat' (first|(simp only [aJ,hd,aD,↓wA,↓wC,wB,aF,aE,reduceEqDiff,reduceAdd,reduceSub,reduceIte,reduceCtorEq,Nat.reduceBEq,reduceLT,aP])|((first|apply aB|apply aC|apply aA)<;>intro h<;>try simp only [h]))
    exact aQ (aM _) (aQ rfl (aQ rfl rfl))
  ·refine ⟨_,h,?_⟩
   simp only [aAj,List.cons_append,List.nil_append,↓wA,↓wC,wB,aF,aE,reduceEqDiff,reduceAdd,reduceSub,reduceIte,reduceCtorEq,Nat.reduceBEq,reduceLT,aP]
   refine bL o.cs.length (fun i:Nat=>⟨[(1,.d (.ptr o.s)),(2,.ptr 1 0 []),(3,.ptr 4 0 []),(4,.d (.int .i64 i))],.dead :: .box zO :: ([.dead,.dead] ++ [.box (bD o (.sl true 4 (dl Cs.s (o.cs.take i))) (.sl true 1 (dl D.str o.led)))])⟩) (fun _=>True) ?_ trivial ?_ ?_
   ·exact (aN _ rfl ⟨⟨rfl,rfl⟩,⟨rfl,rfl⟩,⟨rfl,rfl⟩,⟨rfl,rfl⟩,trivial⟩)
   ·intro i hlt _ hd h0
    obtain ⟨x,hr⟩:=bM hlt
    have h1:Fn prog 89 [.sl false 1 (dl iD x.h)] (fun rs=>rs=[.sl false 1 (dl iD x.h)]):=by
     have h:=eO (o4 x.h (ho.1.2 x (List.mem_of_getElem? hr)))
     simpa [D.unown,cH] using h
    simp only [Off.s,bD,List.cons_append,List.nil_append]
    repeat' (first|(simp only [aJ,hd,h0,aX,Int.toNat_natCast,hr,Option.map_some,aD,aM,aL,↓fS,Cs.s_isV,Cs.s_size,↓wA,↓wC,wB,aF,aE,reduceEqDiff,reduceAdd,reduceSub,reduceIte,reduceCtorEq,Nat.reduceBEq,reduceLT,aP])|(refine aI (by simp only [bQ]; omega) ?_)|((first|apply aB|apply aC|apply aA)<;>intro h<;>try simp only [h]))
    refine aR (dU 5 rfl) ?_
    simp only [aF,aE,Cs.s_unown,↓wA,↓wC,wB,aF,aE,reduceEqDiff,reduceAdd,reduceSub,reduceIte,reduceCtorEq,Nat.reduceBEq,reduceLT,aP]
    refine cB _ (cU 4 none [1] (es:=4) (xs:=dl Cs.s (o.cs.take i)) rfl rfl) fun v1=>?_
    simp only [bR,Cs.s,Cs.p,aM,aL,aD,aJ,↓wA,↓wC,wB,aF,aE,reduceEqDiff,reduceAdd,reduceSub,reduceIte,reduceCtorEq,Nat.reduceBEq,reduceLT,aP]
    repeat' (first|(simp only [aJ,hd,h0,aD,aM,aL,aS,↓wA,↓wC,wB,aF,aE,reduceEqDiff,reduceAdd,reduceSub,reduceIte,reduceCtorEq,Nat.reduceBEq,reduceLT,aP])|(refine bO ?_)|(refine aG h1 rfl rfl ?_)|(with_reducible refine aQ ?_ ?_; focus omega)|(refine aI (by simp only [bQ]; omega) ?_)|((first|apply aB|apply aC|apply aA)<;>intro h<;>try simp only [h]))
    refine aQ (by simp) ?_
    have hl:(o.cs.take i).length=i:=by simp; omega
    refine aQ (by rw [hl]; omega) ?_
    refine aI (by simp only [bQ]; omega) ?_
    refine ⟨i + 1,?_,by omega,by omega⟩
    have happ:(dl Cs.s (o.cs.take i)).app ((D.st (.cons (.int .i64 x.i) (.cons (.int .i64 x.a) (.cons (.int .i64 x.d) (.cons (.sl false 1 (dl iD x.h)) .nil))))).cons .nil)=dl Cs.s (o.cs.take (i + 1)):=(eZ (f:=Cs.s) (o.cs.take i) x).trans (by rw [fX hr])
    rw [happ]
    exact (aN _ rfl ⟨⟨rfl,rfl⟩,⟨rfl,rfl⟩,⟨rfl,rfl⟩,⟨rfl,rfl⟩,trivial⟩)
   ·intro _ hd
    rw [List.take_length]
    simp only [Off.s,bD,List.cons_append,List.nil_append]
    repeat' (first|(simp only [aJ,hd,aD,↓wA,↓wC,wB,aF,aE,reduceEqDiff,reduceAdd,reduceSub,reduceIte,reduceCtorEq,Nat.reduceBEq,reduceLT,aP])|((first|apply aB|apply aC|apply aA)<;>intro h<;>try simp only [h]))
    exact aQ (aM _) (aQ rfl (aQ rfl rfl))
  ·refine ⟨_,h,?_⟩
   simp only [aAj,List.cons_append,List.nil_append,↓wA,↓wC,wB,aF,aE,reduceEqDiff,reduceAdd,reduceSub,reduceIte,reduceCtorEq,Nat.reduceBEq,reduceLT,aP]
   refine bL o.cs.length (fun i:Nat=>⟨[(1,.d (.ptr o.s)),(2,.ptr 1 0 []),(3,.ptr 5 0 []),(4,.d (.int .i64 i))],.dead :: .box zO :: ([.dead,.dead,.dead] ++ [.box (bD o (.sl true 4 (dl Cs.s (o.cs.take i))) (.sl true 1 (dl D.str o.led)))])⟩) (fun _=>True) ?_ trivial ?_ ?_
   ·exact (aN _ rfl ⟨⟨rfl,rfl⟩,⟨rfl,rfl⟩,⟨rfl,rfl⟩,⟨rfl,rfl⟩,trivial⟩)
   ·intro i hlt _ hd h0
    obtain ⟨x,hr⟩:=bM hlt
    have h1:Fn prog 89 [.sl false 1 (dl iD x.h)] (fun rs=>rs=[.sl false 1 (dl iD x.h)]):=by
     have h:=eO (o4 x.h (ho.1.2 x (List.mem_of_getElem? hr)))
     simpa [D.unown,cH] using h
    simp only [Off.s,bD,List.cons_append,List.nil_append]
    repeat' (first|(simp only [aJ,hd,h0,aX,Int.toNat_natCast,hr,Option.map_some,aD,aM,aL,↓fS,Cs.s_isV,Cs.s_size,↓wA,↓wC,wB,aF,aE,reduceEqDiff,reduceAdd,reduceSub,reduceIte,reduceCtorEq,Nat.reduceBEq,reduceLT,aP])|(refine aI (by simp only [bQ]; omega) ?_)|((first|apply aB|apply aC|apply aA)<;>intro h<;>try simp only [h]))
    refine aR (dU 6 rfl) ?_
    simp only [aF,aE,Cs.s_unown,↓wA,↓wC,wB,aF,aE,reduceEqDiff,reduceAdd,reduceSub,reduceIte,reduceCtorEq,Nat.reduceBEq,reduceLT,aP]
    refine cB _ (cU 5 none [1] (es:=4) (xs:=dl Cs.s (o.cs.take i)) rfl rfl) fun v1=>?_
    simp only [bR,Cs.s,Cs.p,aM,aL,aD,aJ,↓wA,↓wC,wB,aF,aE,reduceEqDiff,reduceAdd,reduceSub,reduceIte,reduceCtorEq,Nat.reduceBEq,reduceLT,aP]
    repeat' (first|(simp only [aJ,hd,h0,aD,aM,aL,aS,↓wA,↓wC,wB,aF,aE,reduceEqDiff,reduceAdd,reduceSub,reduceIte,reduceCtorEq,Nat.reduceBEq,reduceLT,aP])|(refine bO ?_)|(refine aG h1 rfl rfl ?_)|(with_reducible refine aQ ?_ ?_; focus omega)|(refine aI (by simp only [bQ]; omega) ?_)|((first|apply aB|apply aC|apply aA)<;>intro h<;>try simp only [h]))
    refine aQ (by simp) ?_
    have hl:(o.cs.take i).length=i:=by simp; omega
    refine aQ (by rw [hl]; omega) ?_
    refine aI (by simp only [bQ]; omega) ?_
    refine ⟨i + 1,?_,by omega,by omega⟩
    have happ:(dl Cs.s (o.cs.take i)).app ((D.st (.cons (.int .i64 x.i) (.cons (.int .i64 x.a) (.cons (.int .i64 x.d) (.cons (.sl false 1 (dl iD x.h)) .nil))))).cons .nil)=dl Cs.s (o.cs.take (i + 1)):=(eZ (f:=Cs.s) (o.cs.take i) x).trans (by rw [fX hr])
    rw [happ]
    exact (aN _ rfl ⟨⟨rfl,rfl⟩,⟨rfl,rfl⟩,⟨rfl,rfl⟩,⟨rfl,rfl⟩,trivial⟩)
   ·intro _ hd
    rw [List.take_length]
    simp only [Off.s,bD,List.cons_append,List.nil_append]
    repeat' (first|(simp only [aJ,hd,aD,↓wA,↓wC,wB,aF,aE,reduceEqDiff,reduceAdd,reduceSub,reduceIte,reduceCtorEq,Nat.reduceBEq,reduceLT,aP])|((first|apply aB|apply aC|apply aA)<;>intro h<;>try simp only [h]))
    exact aQ (aM _) (aQ rfl (aQ rfl rfl))
end Go.Pe.Tryz
set_option maxRecDepth 100000
set_option maxHeartbeats 4000000
set_option linter.all false
namespace Go.Pe.Tryz
open Nat (reduceEqDiff reduceAdd reduceSub reduceLT)
open Go.Proofs.Tryz
theorem vP (o:Off) (k id a v:Int) (ho:o.ok0):Fn prog 41 [o.s,gJ k id a v] (fun rs=>rs=[.bool (iG o k id a v)]):=by
 have hF:=iA o id ho
 have hid:=gT id 1 999
 have ha:=gT a 1 3
 have hv:=gT v 1 9
 unfold iG
 refine a8 (fn:=f41) (by exact func41) c41 r41 (n:=106) (by rfl) (rv:=[.tmp 4]) (by rfl) (by simp) ?_
 unfold m41
 try simp only [wQ]
 simp only [gJ]
 repeat' (first|(simp only [Off.s_noOwn,Off.s_isV,Off.s_size,↓bG,aD,↓wA,↓wC,wB,aF,aE,reduceEqDiff,reduceAdd,reduceSub,reduceIte,reduceCtorEq,Nat.reduceBEq,reduceLT,aP])|(refine aG hF (by simp [bE,bV,Off.s_unown]) rfl ?_)|(refine aG (hid) rfl rfl ?_)|(refine aH (hid) rfl rfl ?_)|(refine aG (ha) rfl rfl ?_)|(refine aH (ha) rfl rfl ?_)|(refine aG (hv) rfl rfl ?_)|(refine aH (hv) rfl rfl ?_)|((first|apply aB|apply aC|apply aA)<;>intro h<;>try simp only [h]))
 all_goals simp_all
theorem aAa (o:Off) (k id a v:Int) (ho:o.ok0) (hb:bQ .i64 (o.day + v)):Fn prog 76 [o.s,gJ k id a v] (fun rs=>rs=[Off.w { o with cs:=eC ⟨id,a,o.day + v,[]⟩ o.cs }]):=by
 have hO:=fA o ho
 have hno:o.w.noOwn=false:=by simp [Off.w,bD,D.noOwn]
 have hwV:o.w.isV=true:=rfl
 have hwS:o.w.size=5:=rfl
 have hlen:=ho.1.1
 refine dL (ps:=[[1,1,1,1,1,0],[1,1,0],[1,1,0],[1,1,0]]) (fn:=f76) (by exact func76) c76 r76 (n:=55) (by rfl) (rv:=[.cell 4 27]) (by rfl) (by simp) ?_
 unfold m76
 try simp only [wQ]
 simp only [cI,dD]
 simp only [gJ]
 repeat' (first|(simp only [Off.s_noOwn,Off.s_isV,Off.s_size,hno,hwV,hwS,↓bG,aD,↓wA,↓wC,wB,aF,aE,reduceEqDiff,reduceAdd,reduceSub,reduceIte,reduceCtorEq,Nat.reduceBEq,reduceLT,aP])|(refine aG hO (by simp [bE,bV,Off.s_unown]) rfl ?_)|((first|apply aB|apply aC|apply aA)<;>intro h<;>try simp only [h]))
 refine aR (dU 0 rfl) ?_
 simp only [aF,aE,Off.s_unown,↓wA,↓wC,wB,aF,aE,reduceEqDiff,reduceAdd,reduceSub,reduceIte,reduceCtorEq,Nat.reduceBEq,reduceLT,aP]
 refine aR (dU 1 rfl) ?_
 simp only [aF,aE,D.unown,↓wA,↓wC,wB,aF,aE,reduceEqDiff,reduceAdd,reduceSub,reduceIte,reduceCtorEq,Nat.reduceBEq,reduceLT,aP]
 refine aR (freeze 4 none [1] (x:=.sl true 4 (dl Cs.s o.cs)) rfl rfl rfl) ?_
 simp only [bR,Off.w,bD,D.unown,dA,↓wA,↓wC,wB,aF,aE,reduceEqDiff,reduceAdd,reduceSub,reduceIte,reduceCtorEq,Nat.reduceBEq,reduceLT,aP]
 refine cZ (fun j:Nat=>⟨[(2,.d (.ptr o.s)),(3,.d (.ptr (gJ k id a v))),(4,.ptr 2 0 []),(5,.ptr 4 0 []),(6,.d (.int .i64 j))],[.dead,.dead,.box zO,.dead,.box (bD o (.sl false 4 (dl Cs.s o.cs)) (.sl true 1 (dl D.str o.led)))]⟩) (fun j=>j<=o.cs.length/\∀ m x,m < j->o.cs[m]?=some x->x.i < id) (fun j=>o.cs.length - j) 0 (aN _ rfl ⟨⟨rfl,rfl⟩,⟨rfl,rfl⟩,⟨rfl,rfl⟩,⟨rfl,rfl⟩,⟨rfl,rfl⟩,trivial⟩) ⟨by omega,fun m x hm=>by omega⟩ ?_
 rintro j ⟨hj1,hj2⟩
 simp only [bD,gJ]
 have hcm:∀ x:Cs,Cs.s x=x.p (.sl false 1 (dl iD x.h)):=fun _=>rfl
 have hj0:(0:Int)<=(j:Int):=by omega
 by_cases hlt:j < o.cs.length
 ·obtain ⟨x,hr⟩:=bM hlt
  have hd:decide ((j:Int) < (o.cs.length:Int))=true:=decide_eq_true (by omega)
  cases hx:decide (x.i < id) with
  | true =>
   repeat' (first|(simp only [aD,aJ,aX,hd,hx,hr,hj0,Cs.s,Cs.p,aM,aL,Int.toNat_natCast,Option.map_some,o9,oW,↓wA,↓wC,wB,aF,aE,reduceEqDiff,reduceAdd,reduceSub,reduceIte,reduceCtorEq,Nat.reduceBEq,reduceLT,aP])|(with_reducible refine aI ?_ ?_; focus (simp only [bQ]; omega))|((first|apply aB|apply aC|apply aA)<;>intro h<;>try simp only [h]))
   refine ⟨j + 1,(aN _ rfl ⟨⟨rfl,rfl⟩,⟨rfl,rfl⟩,⟨rfl,rfl⟩,⟨rfl,rfl⟩,⟨rfl,rfl⟩,trivial⟩),⟨by omega,fun m y hm hy=>?_⟩,by omega⟩
   by_cases e:m=j
   ·subst e
    rw [hr] at hy
    injection hy with hy
    rw [<- hy]; exact of_decide_eq_true hx
   ·exact hj2 m y (by omega) hy
  | false =>
   have hpl:lQ id o.cs=j:=mD o.cs j hj1 hj2 (fun y hy=>by rw [hr] at hy; injection hy with hy; rw [<- hy]; exact of_decide_eq_false hx)
   repeat' (first|(simp only [aD,aJ,aX,hd,hx,hr,hj0,Off.s,bD,Cs.s,Cs.p,aM,aL,Int.toNat_natCast,Option.map_some,o9,oW,↓wA,↓wC,wB,aF,aE,reduceEqDiff,reduceAdd,reduceSub,reduceIte,reduceCtorEq,Nat.reduceBEq,reduceLT,aP])|(with_reducible refine aI hb ?_)|(with_reducible refine aI ?_ ?_; focus (simp only [bQ]; omega))|((first|apply aB|apply aC|apply aA)<;>intro h<;>try simp only [h]))
   refine aR (dU 7 rfl) ?_
   simp only [aF,aE,D.unown,↓wA,↓wC,wB,aF,aE,reduceEqDiff,reduceAdd,reduceSub,reduceIte,reduceCtorEq,Nat.reduceBEq,reduceLT,aP]
   repeat' (first|(simp only [aD,aJ,aM,aL,↓wA,↓wC,wB,aF,aE,reduceEqDiff,reduceAdd,reduceSub,reduceIte,reduceCtorEq,Nat.reduceBEq,reduceLT,aP])|(refine bO ?_)|(with_reducible refine And.intro ?_ ?_)|(with_reducible refine aI ?_ ?_; focus (simp only [bQ]; omega))|((first|apply aB|apply aC|apply aA)<;>intro h<;>try simp only [h]))
   have hs1:(dl Cs.s o.cs).sub 0 j=dl Cs.s (o.cs.take j):=by rw [lP]; rfl
   have hs2:(dl Cs.s o.cs).sub j o.cs.length=dl Cs.s (o.cs.drop j):=by rw [lP,List.take_length]
   have happ:∀ xs:List Cs,(dl Cs.s xs).app (D.cons (D.st (.cons (.int .i64 id) (.cons (.int .i64 a) (.cons (.int .i64 (o.day + v)) (.cons (.sl false 1 .nil) .nil))))) .nil)=dl Cs.s (xs ++ [⟨id,a,o.day + v,[]⟩]):=fun xs=>eZ (f:=Cs.s) xs ⟨id,a,o.day + v,[]⟩
   have hen:eC ⟨id,a,o.day + v,[]⟩ o.cs=(o.cs.take j ++ [⟨id,a,o.day + v,[]⟩]) ++ o.cs.drop j:=by unfold eC; rw [hpl]; simp
   rw [hen]
   clear hen
   simp only [Int.toNat_natCast,hs1,hs2,happ,pZ,aJ,List.length_append,List.length_take,List.length_drop,List.length_singleton,Nat.min_eq_left hj1]
   repeat' (first|(with_reducible refine And.intro ?_ ?_)|(with_reducible refine aQ ?_ ?_; focus omega)|(with_reducible refine aQ ?_ ?_; focus (simp; done))|(with_reducible refine aQ ?_ ?_; focus rfl)|rfl)
   all_goals exact aQ rfl (aQ rfl trivial)
 ·have hd:decide ((j:Int) < (o.cs.length:Int))=false:=decide_eq_false (by omega)
  have hpl:lQ id o.cs=j:=mD o.cs j hj1 hj2 (fun y hy=>by have:=aK hy; omega)
  repeat' (first|(simp only [aD,aJ,aX,hd,hd,hd,hj0,Off.s,bD,Cs.s,Cs.p,aM,aL,Int.toNat_natCast,Option.map_some,o9,oW,↓wA,↓wC,wB,aF,aE,reduceEqDiff,reduceAdd,reduceSub,reduceIte,reduceCtorEq,Nat.reduceBEq,reduceLT,aP])|(with_reducible refine aI hb ?_)|(with_reducible refine aI ?_ ?_; focus (simp only [bQ]; omega))|((first|apply aB|apply aC|apply aA)<;>intro h<;>try simp only [h]))
  refine aR (dU 7 rfl) ?_
  simp only [aF,aE,D.unown,↓wA,↓wC,wB,aF,aE,reduceEqDiff,reduceAdd,reduceSub,reduceIte,reduceCtorEq,Nat.reduceBEq,reduceLT,aP]
  repeat' (first|(simp only [aD,aJ,aM,aL,↓wA,↓wC,wB,aF,aE,reduceEqDiff,reduceAdd,reduceSub,reduceIte,reduceCtorEq,Nat.reduceBEq,reduceLT,aP])|(refine bO ?_)|(with_reducible refine And.intro ?_ ?_)|(with_reducible refine aI ?_ ?_; focus (simp only [bQ]; omega))|((first|apply aB|apply aC|apply aA)<;>intro h<;>try simp only [h]))
  have hs1:(dl Cs.s o.cs).sub 0 j=dl Cs.s (o.cs.take j):=by rw [lP]; rfl
  have hs2:(dl Cs.s o.cs).sub j o.cs.length=dl Cs.s (o.cs.drop j):=by rw [lP,List.take_length]
  have happ:∀ xs:List Cs,(dl Cs.s xs).app (D.cons (D.st (.cons (.int .i64 id) (.cons (.int .i64 a) (.cons (.int .i64 (o.day + v)) (.cons (.sl false 1 .nil) .nil))))) .nil)=dl Cs.s (xs ++ [⟨id,a,o.day + v,[]⟩]):=fun xs=>eZ (f:=Cs.s) xs ⟨id,a,o.day + v,[]⟩
  have hen:eC ⟨id,a,o.day + v,[]⟩ o.cs=(o.cs.take j ++ [⟨id,a,o.day + v,[]⟩]) ++ o.cs.drop j:=by unfold eC; rw [hpl]; simp
  rw [hen]
  clear hen
  simp only [Int.toNat_natCast,hs1,hs2,happ,pZ,aJ,List.length_append,List.length_take,List.length_drop,List.length_singleton,Nat.min_eq_left hj1]
  repeat' (first|(with_reducible refine And.intro ?_ ?_)|(with_reducible refine aQ ?_ ?_; focus omega)|(with_reducible refine aQ ?_ ?_; focus (simp; done))|(with_reducible refine aQ ?_ ?_; focus rfl)|rfl)
  all_goals exact aQ rfl (aQ rfl trivial)
end Go.Pe.Tryz
set_option maxRecDepth 100000
set_option maxHeartbeats 4000000
set_option linter.all false
namespace Go.Pe.Tryz
open Nat (reduceEqDiff reduceAdd reduceSub reduceLT)
open Go.Proofs.Tryz
def tC (v:Int) (h:List Int):List Int:=h.filter fun n=>!decide (n=v)
theorem aCj {v r:Int} {h:List Int} {k:Nat} (hr:h[k]?=some r):tC v (h.take (k + 1))=tC v (h.take k) ++ (if r=v then [] else [r]):=by
 rw [fX hr]
 unfold tC
 rw [List.filter_append]
 by_cases e:r=v
 ·simp [e]
 ·simp [e]
theorem aDh {v r:Int} {h:List Int} {k:Nat} (hr:h[k]?=some r):(h.take (k + 1)).contains v=((h.take k).contains v || decide (v=r)):=by
 rw [fX hr]
 simp [List.contains_eq_any_beq,List.any_append]
theorem aE6 (v:Int) (h:List Int):(tC v h).length<=h.length:=List.length_filter_le _ _
theorem wY (o:Off) (v:Int) (ho:o.ok0):Fn prog 78 [o.s,.int .i64 v] (fun rs=>rs=[Off.w { o with cs:=o.cs.map (nN v) },.bool (pE v o.cs)]):=by
 have hO:=fA o ho
 have hno:o.w.noOwn=false:=by simp [Off.w,bD,D.noOwn]
 have hwV:o.w.isV=true:=rfl
 have hwS:o.w.size=5:=rfl
 have hlen:=ho.1.1
 refine dL (ps:=[[1,1,0,1,0,0,1,0,0,1,1],[1,1,0,0],[1,1,1,0]]) (fn:=f78) (by exact func78) c78 r78 (n:=57) (by rfl) (rv:=[.cell 4 27,.tmp 5]) (by rfl) (by simp) ?_
 unfold m78
 try simp only [wQ]
 simp only [cI,dD]
 repeat' (first|(simp only [Off.s_noOwn,Off.s_isV,Off.s_size,hno,hwV,hwS,↓bG,aD,↓wA,↓wC,wB,aF,aE,reduceEqDiff,reduceAdd,reduceSub,reduceIte,reduceCtorEq,Nat.reduceBEq,reduceLT,aP])|(refine aG hO (by simp [bE,bV,Off.s_unown]) rfl ?_)|((first|apply aB|apply aC|apply aA)<;>intro h<;>try simp only [h]))
 simp only [Off.w,bD]
 refine cB _ (cU 3 none [1] (es:=4) (xs:=dl Cs.s o.cs) rfl rfl) fun v1=>?_
 simp only [bR,aD,aJ,↓wA,↓wC,wB,aF,aE,reduceEqDiff,reduceAdd,reduceSub,reduceIte,reduceCtorEq,Nat.reduceBEq,reduceLT,aP]
 refine bL o.cs.length (fun i:Nat=>⟨[(1,.d (.int .i64 v)),(4,.ptr 1 0 []),(6,.ptr 3 0 []),(7,.d (.bool (pE v (o.cs.take i)))),(8,.d (.int .i64 i))],[.box o.s,.box zO,.dead,.box (bD o (.lnk 5 v1) (.sl true 1 (dl D.str o.led))),.val (.sl true 4 (dl Cs.s (mV v o.cs i))),.tag 4 v1]⟩) (fun _=>True) ?_ trivial ?_ ?_
 ·exact (aN _ rfl ⟨⟨rfl,rfl⟩,⟨rfl,rfl⟩,⟨rfl,rfl⟩,⟨rfl,rfl⟩,⟨rfl,rfl⟩,trivial⟩)
 ·intro i hlt _ hd h0
  obtain ⟨x,hr⟩:=bM hlt
  have hg:=aAn (v:=v) hr
  have hxo:=ho.1.2 x (List.mem_of_getElem? hr)
  have hxl:x.h.length<=1048576:=hxo
  have hxs:Cs.s x=x.p (.sl false 1 (dl iD x.h)):=rfl
  have hgs:∀ (y:D),((dl Cs.s (mV v o.cs i)).setN i y).nth i=some y:=fun y=>by rw [kQ,if_pos rfl,aX,hg]; rfl
  have hgn:(dl Cs.s (mV v o.cs i)).nth i=some (x.p (.sl false 1 (dl iD x.h))):=by rw [aX,hg]; rfl
  have hx:=xS (v:=v) hr
  simp only [bD]
  repeat' (first|(simp only [aJ,iO,hd,h0,aD,↓wA,↓wC,wB,aF,aE,reduceEqDiff,reduceAdd,reduceSub,reduceIte,reduceCtorEq,Nat.reduceBEq,reduceLT,aP])|((first|apply aB|apply aC|apply aA)<;>intro h<;>try simp only [h]))
  refine bL x.h.length (fun k:Nat=>⟨[(1,.d (.int .i64 v)),(4,.ptr 1 0 []),(6,.ptr 3 0 []),(7,.d (.bool (pE v (o.cs.take i) || (x.h.take k).contains v))),(8,.d (.int .i64 i)),(9,.own 6),(10,.d (.int .i64 k))],[.box o.s,.box zO,.dead,.box (bD o (.lnk 5 v1) (.sl true 1 (dl D.str o.led))),.val (.sl true 4 (dl Cs.s (mV v o.cs i))),.tag 4 v1,.val (.sl true 1 (dl iD (tC v (x.h.take k))))]⟩) (fun _=>True) ?_ trivial ?_ ?_
  ·rw [List.take_zero,show ([]:List Int).contains v=false from rfl,Bool.or_false]
   exact (aN _ rfl ⟨⟨rfl,rfl⟩,⟨rfl,rfl⟩,⟨rfl,rfl⟩,⟨rfl,rfl⟩,⟨rfl,rfl⟩,⟨rfl,rfl⟩,⟨rfl,rfl⟩,trivial⟩)
  ·intro k hk _ hkd hk0
   obtain ⟨r,hkr⟩:=bM hk
   have hlx:=aCj (v:=v) hkr
   have hhx:=aDh (v:=v) hkr
   simp only [bD]
   cases hrv:decide (r=v) with
   | true =>
    have hrv':=of_decide_eq_true hrv
    rw [if_pos hrv',List.append_nil] at hlx
    rw [decide_eq_true hrv'.symm,Bool.or_true] at hhx
    repeat' (first|(simp only [aJ,iO,hd,h0,hkd,hk0,hrv,hgn,aX,hkr,Int.toNat_natCast,Option.map_some,iM,aS,aD,dF,cA,b9,↓wA,↓wC,wB,aF,aE,reduceEqDiff,reduceAdd,reduceSub,reduceIte,reduceCtorEq,Nat.reduceBEq,reduceLT,aP])|(with_reducible refine aI ?_ ?_; focus (simp only [bQ]; omega))|((first|apply aB|apply aC|apply aA)<;>intro h<;>try simp only [h]))
    refine ⟨k + 1,?_,by omega,by omega⟩
    rw [hlx,hhx,Bool.or_true]
    exact (aN _ rfl ⟨⟨rfl,rfl⟩,⟨rfl,rfl⟩,⟨rfl,rfl⟩,⟨rfl,rfl⟩,⟨rfl,rfl⟩,⟨rfl,rfl⟩,⟨rfl,rfl⟩,trivial⟩)
   | false =>
    have hrv':=of_decide_eq_false hrv
    rw [if_neg hrv'] at hlx
    rw [decide_eq_false (fun e=>hrv' e.symm),Bool.or_false] at hhx
    repeat' (first|(simp only [aJ,iO,hd,h0,hkd,hk0,hrv,hgn,aX,hkr,Int.toNat_natCast,Option.map_some,iM,aS,aD,dF,cA,b9,↓wA,↓wC,wB,aF,aE,reduceEqDiff,reduceAdd,reduceSub,reduceIte,reduceCtorEq,Nat.reduceBEq,reduceLT,aP])|(with_reducible refine aI ?_ ?_; focus (simp only [bQ]; omega))|((first|apply aB|apply aC|apply aA)<;>intro h<;>try simp only [h]))
    have hll:=aE6 v (x.h.take k)
    have hlt2:(x.h.take k).length<=k:=by simp; omega
    refine aQ (by simp) ?_
    refine aQ (by omega) ?_
    refine aI (by simp only [bQ]; omega) ?_
    have happ:(dl iD (tC v (x.h.take k))).app (D.cons (.int .i64 r) .nil)=dl iD (tC v (x.h.take (k + 1))):=(eZ (f:=iD) _ r).trans (by rw [hlx])
    rw [happ]
    refine ⟨k + 1,?_,by omega,by omega⟩
    rw [hhx]
    exact (aN _ rfl ⟨⟨rfl,rfl⟩,⟨rfl,rfl⟩,⟨rfl,rfl⟩,⟨rfl,rfl⟩,⟨rfl,rfl⟩,⟨rfl,rfl⟩,⟨rfl,rfl⟩,trivial⟩)
  ·intro _ hkd
   rw [List.take_length]
   simp only [bD]
   repeat' (first|(simp only [aJ,iO,hd,h0,hkd,hgn,aX,Int.toNat_natCast,Option.map_some,aS,aD,dF,cA,b9,↓wA,↓wC,wB,aF,aE,reduceEqDiff,reduceAdd,reduceSub,reduceIte,reduceCtorEq,Nat.reduceBEq,reduceLT,aP])|((first|apply aB|apply aC|apply aA)<;>intro h<;>try simp only [h]))
   refine aR (aJN 6 rfl) ?_
   simp only [iV,gZ,D.unown,cH,↓wA,↓wC,wB,aF,aE,reduceEqDiff,reduceAdd,reduceSub,reduceIte,reduceCtorEq,Nat.reduceBEq,reduceLT,aP]
   repeat' (first|(simp only [aJ,iO,hd,h0,hgn,hgs,cD,aX,Int.toNat_natCast,Option.map_some,aS,aD,dF,cA,b9,↓wA,↓wC,wB,aF,aE,reduceEqDiff,reduceAdd,reduceSub,reduceIte,reduceCtorEq,Nat.reduceBEq,reduceLT,aP])|(with_reducible refine aI ?_ ?_; focus (simp only [bQ]; omega))|((first|apply aB|apply aC|apply aA)<;>intro h<;>try simp only [h]))
   have e:x.p (.sl false 1 (dl iD (tC v x.h)))=Cs.s (nN v x):=rfl
   rw [e,gD,u5 hr]
   refine ⟨i + 1,?_,by omega,by omega⟩
   rw [hx]
   exact (aN _ rfl ⟨⟨rfl,rfl⟩,⟨rfl,rfl⟩,⟨rfl,rfl⟩,⟨rfl,rfl⟩,⟨rfl,rfl⟩,trivial⟩)
 ·intro _ hd
  have er:mV v o.cs o.cs.length=o.cs.map (nN v):=by simp [mV]
  rw [er,List.take_length]
  simp only [bD]
  repeat' (first|(simp only [aJ,List.length_map,hd,aD,↓wA,↓wC,wB,aF,aE,reduceEqDiff,reduceAdd,reduceSub,reduceIte,reduceCtorEq,Nat.reduceBEq,reduceLT,aP])|((first|apply aB|apply aC|apply aA)<;>intro h<;>try simp only [h]))
  refine aR (fV 3 5 4 none [1] rfl rfl rfl rfl (by decide) rfl) ?_
  simp only [bR,↓wA,↓wC,wB,aF,aE,reduceEqDiff,reduceAdd,reduceSub,reduceIte,reduceCtorEq,Nat.reduceBEq,reduceLT,aP]
  repeat' (first|(simp only [aL,aD,↓wA,↓wC,wB,aF,aE,reduceEqDiff,reduceAdd,reduceSub,reduceIte,reduceCtorEq,Nat.reduceBEq,reduceLT,aP])|((first|apply aB|apply aC|apply aA)<;>intro h<;>try simp only [h]))
  exact aQ rfl (aQ rfl trivial)
end Go.Pe.Tryz
set_option maxRecDepth 100000
set_option maxHeartbeats 4000000
set_option linter.all false
namespace Go.Pe.Tryz
open Nat (reduceEqDiff reduceAdd reduceSub reduceLT)
open Go.Proofs.Tryz
def tF (o:Off) (x:Cs) (i:Nat) (a:Nat) (l:List Ob):St:=⟨[(1,.d (.int .i64 i)),(2,.d (.ptr o.s)),(4,.ptr 1 0 []),(6,.ptr a 0 []),(7,.d (.ptr x.s))],.dead :: .box zO :: (l ++ [.box (bD o (.sl true 4 (dl Cs.s o.cs)) (.sl true 1 (dl D.str o.led)))])⟩
theorem x4 {s:St} (q:Nat) {x y:D} (hq:s.o[q]?=some (.box x)) (hy:x.unown=y):cT s ⟨aF q y s.e,s.o.set q .dead⟩:=hy ▸ dU q hq
theorem aDv (o:Off) (i:Nat) (x:Cs) (ho:bN o=true) (hr:o.cs[i]?=some x):Fn prog 79 [o.s,.int .i64 i] (fun rs=>rs=[(fU o i x).w,.bool (bP o x && bN (fU o i x))]):=by
 have ho0:=dK ho
 have hp:=bT ho
 have hO:=fA o ho0
 have hno:o.w.noOwn=false:=by simp [Off.w,bD,D.noOwn]
 have hwV:o.w.isV=true:=rfl
 have hwS:o.w.size=5:=rfl
 have h0:(0:Int)<=(i:Int):=by omega
 refine dL (ps:=[[1,1,1,0,1,0,1,1,1,1,0],[1,1,0],[1,0]]) (fn:=f79) (by exact func79) c79 r79 (n:=82) (by rfl) (rv:=[.cell 4 27,.tmp 5]) (by rfl) (by simp) ?_
 unfold m79
 try simp only [wQ]
 simp only [cI,dD]
 repeat' (first|(simp only [Off.s_noOwn,Off.s_isV,Off.s_size,hno,hwV,hwS,↓bG,aD,↓wA,↓wC,wB,aF,aE,reduceEqDiff,reduceAdd,reduceSub,reduceIte,reduceCtorEq,Nat.reduceBEq,reduceLT,aP])|((first|apply aB|apply aC|apply aA)<;>intro h<;>try simp only [h]))
 refine aR (dU 0 rfl) ?_
 simp only [aF,aE,Off.s_unown,↓wA,↓wC,wB,aF,aE,reduceEqDiff,reduceAdd,reduceSub,reduceIte,reduceCtorEq,Nat.reduceBEq,reduceLT,aP]
 have hfa:∀ K:SV->Prop,aT 1 1 (.d (.ptr o.s)) K=K (.d (.ptr (.sl false 4 (dl Cs.s o.cs)))):=fun K=>by simp [Off.s,bD,aT,D.pre,D.nth,D.size]
 simp only [hfa,hr,h0,aJ,aX,Int.toNat_natCast,Option.map_some,aM,Off.s_noOwn,Off.s_isV,Off.s_size,hno,hwV,hwS,↓bG,↓fS,aD,Cs.s_isV,Cs.s_size,↓wA,↓wC,wB,aF,aE,reduceEqDiff,reduceAdd,reduceSub,reduceIte,reduceCtorEq,Nat.reduceBEq,reduceLT,aP]
 refine aFf (fun s=>cT s (tF o x i 2 [])\/cT s (tF o x i 3 [.dead])\/cT s (tF o x i 4 [.dead,.dead])) ?_ ?_
 ·repeat' (first
   |(with_reducible refine And.intro ?_ ?_)
   |(refine aG hO (by simp [bE,bV,Off.s_unown]) rfl ?_)
   |(refine aH hO (by simp [bE,bV,Off.s_unown]) rfl ?_)
   |(simp only [hno,hwV,hwS,Off.s_noOwn,Off.s_isV,Off.s_size,Cs.s_noOwn,Cs.s_isV,Cs.s_size,aD,↓wA,↓wC,wB,aF,aE,reduceEqDiff,reduceAdd,reduceSub,reduceIte,reduceCtorEq,Nat.reduceBEq,reduceLT,aP]))
  all_goals (first
   | exact .inl ((x4 3 rfl (Cs.s_unown x)).trans (aN _ rfl ⟨⟨rfl,rfl⟩,⟨rfl,rfl⟩,⟨rfl,rfl⟩,⟨rfl,rfl⟩,⟨rfl,rfl⟩,trivial⟩))
   | exact .inl ((x4 4 rfl (Cs.s_unown x)).trans (aN _ rfl ⟨⟨rfl,rfl⟩,⟨rfl,rfl⟩,⟨rfl,rfl⟩,⟨rfl,rfl⟩,⟨rfl,rfl⟩,trivial⟩))
   | exact .inr (.inl ((x4 2 rfl (Cs.s_unown x)).trans (aN _ rfl ⟨⟨rfl,rfl⟩,⟨rfl,rfl⟩,⟨rfl,rfl⟩,⟨rfl,rfl⟩,⟨rfl,rfl⟩,trivial⟩)))
   | exact .inr (.inl ((x4 4 rfl (Cs.s_unown x)).trans (aN _ rfl ⟨⟨rfl,rfl⟩,⟨rfl,rfl⟩,⟨rfl,rfl⟩,⟨rfl,rfl⟩,⟨rfl,rfl⟩,trivial⟩)))
   | exact .inr (.inr ((x4 2 rfl (Cs.s_unown x)).trans (aN _ rfl ⟨⟨rfl,rfl⟩,⟨rfl,rfl⟩,⟨rfl,rfl⟩,⟨rfl,rfl⟩,⟨rfl,rfl⟩,trivial⟩)))
   | exact .inr (.inr ((x4 3 rfl (Cs.s_unown x)).trans (aN _ rfl ⟨⟨rfl,rfl⟩,⟨rfl,rfl⟩,⟨rfl,rfl⟩,⟨rfl,rfl⟩,⟨rfl,rfl⟩,trivial⟩))))
 ·have hil:=aK hr
  have hfx:∀ K:SV->Prop,aT 1 1 (.d (.ptr x.s)) K=K (.d (.ptr (.int .i64 x.a))):=fun K=>by simp [Cs.s,Cs.p,aT,D.pre,D.nth,D.size]
  have hf2:∀ K:SV->Prop,aT 2 2 (.d (.ptr o.s)) K=K (.d (.ptr (.int .i64 o.kept))):=fun K=>by simp [Off.s,bD,aT,D.pre,D.nth,D.size]
  have hf3:∀ K:SV->Prop,aT 3 3 (.d (.ptr o.s)) K=K (.d (.ptr (.int .i64 o.moved))):=fun K=>by simp [Off.s,bD,aT,D.pre,D.nth,D.size]
  have hf0:∀ K:SV->Prop,aT 0 0 (.d (.ptr o.s)) K=K (.d (.ptr (.int .i64 o.day))):=fun K=>by simp [Off.s,bD,aT,D.pre,D.nth,D.size]
  have hx2:∀ K:SV->Prop,aT 2 2 (.d (.ptr x.s)) K=K (.d (.ptr (.int .i64 x.d))):=fun K=>by simp [Cs.s,Cs.p,aT,D.pre,D.nth,D.size]
  have hx0:∀ K:SV->Prop,aT 0 0 (.d (.ptr x.s)) K=K (.d (.ptr (.int .i64 x.i))):=fun K=>by simp [Cs.s,Cs.p,aT,D.pre,D.nth,D.size]
  have hx3:∀ K:SV->Prop,aT 3 3 (.d (.ptr x.s)) K=K (.d (.ptr (.sl false 1 (dl iD x.h)))):=fun K=>by simp [Cs.s,Cs.p,aT,D.pre,D.nth,D.size]
  have hs1:(dl Cs.s o.cs).sub 0 i=dl Cs.s (o.cs.take i):=by rw [lP]; rfl
  have hs2:(dl Cs.s o.cs).sub (i + 1) o.cs.length=dl Cs.s (o.cs.drop (i + 1)):=by rw [lP,List.take_length]
  have htn:((i:Int) + 1).toNat=i + 1:=by omega
  have happ:(dl Cs.s (o.cs.take i)).app (dl Cs.s (o.cs.drop (i + 1)))=dl Cs.s (o.cs.eraseIdx i):=by rw [pZ,List.eraseIdx_eq_take_drop_succ]
  have hl1:(o.cs.take i).length=i:=by simp; omega
  have hl2:(o.cs.drop (i + 1)).length=o.cs.length - (i + 1):=by simp
  have hok:(fU o i x).ok0:=by
   have hle:oV (o.cs.eraseIdx i):=⟨by have:=List.length_eraseIdx_le o.cs i; omega,fun y hy=>ho0.1.2 y (List.mem_of_mem_eraseIdx hy)⟩
   unfold fU
   split
   ·exact ⟨hle,ho0.2⟩
   ·split
    ·exact ⟨hle,ho0.2⟩
    ·refine ⟨hle,by simp; omega,fun s hs=>?_⟩
     have hxc:=cG (hp.2.2.2.2.2.2.2.2.2 x (List.mem_of_getElem? hr))
     rcases List.mem_append.1 hs with hs|hs
     ·exact ho0.2.2 s hs
     ·rw [List.mem_singleton.1 hs]
      have h1:=jE x.i (by simp only [bQ]; omega)
      have h2:=jE o.day (by simp only [bQ]; omega)
      simp [g8]; omega
  have hG:=eF (fU o i x) hok
  cases k1:decide (x.a=1) with
  | true =>
   have ha:=k1
   have k2:=k1
   have hu:(D.st (.cons (.int .i64 o.day) (.cons (.sl true 4 (dl Cs.s (o.cs.eraseIdx i))) (.cons (.int .i64 (o.kept + 1)) (.cons (.int .i64 o.moved) (.cons (.sl true 1 (dl D.str o.led)) .nil)))))).unown=(fU o i x).s:=by
    unfold fU
    rw [if_pos (of_decide_eq_true k1)]
    simp [Off.s,bD,D.unown,dA,gY]
   have hwE:(D.st (.cons (.int .i64 o.day) (.cons (.sl true 4 (dl Cs.s (o.cs.eraseIdx i))) (.cons (.int .i64 (o.kept + 1)) (.cons (.int .i64 o.moved) (.cons (.sl true 1 (dl D.str o.led)) .nil))))))=(fU o i x).w:=by
    unfold fU
    rw [if_pos (of_decide_eq_true k1)]
    rfl
   rintro s' (h|h|h)
   ·refine ⟨_,h,?_⟩
    simp only [tF,List.cons_append,List.nil_append,↓wA,↓wC,wB,aF,aE,reduceEqDiff,reduceAdd,reduceSub,reduceIte,reduceCtorEq,Nat.reduceBEq,reduceLT,aP]
    refine aR (freeze 2 none [1] (x:=.sl true 4 (dl Cs.s o.cs)) rfl rfl rfl) ?_
    simp only [bR,bD,D.unown,dA,↓wA,↓wC,wB,aF,aE,reduceEqDiff,reduceAdd,reduceSub,reduceIte,reduceCtorEq,Nat.reduceBEq,reduceLT,aP]
    cases hdd:decide (x.d<=o.day) with
    | true =>
     have hdb:bP o x=true:=by simp [bP,of_decide_eq_true hdd,of_decide_eq_true k1]
     repeat' (first|(simp only [aD,a7,aJ,aM,aL,hfx,hf0,hf2,hf3,hx0,hx2,hx3,Int.toNat_natCast,htn,hs1,hs2,happ,hl1,hl2,ha,hdd,k1,k2,↓wA,↓wC,wB,aF,aE,reduceEqDiff,reduceAdd,reduceSub,reduceIte,reduceCtorEq,Nat.reduceBEq,reduceLT,aP])|(refine bO ?_)|(with_reducible refine And.intro ?_ ?_)|(with_reducible refine aQ ?_ ?_; focus omega)|(with_reducible refine aI ?_ ?_; focus (simp only [bQ]; omega))|(refine aG hG (congrArg (fun d:D=>some [d]) hu) rfl ?_)|(refine aH hG (congrArg (fun d:D=>some [d]) hu) rfl ?_)|((first|apply aB|apply aC|apply aA)<;>intro h<;>try simp only [h]))
     all_goals (refine aQ rfl ?_; rw [hwE,hdb,Bool.true_and])
    | false =>
     have hdb:bP o x=false:=by simp [bP,of_decide_eq_false hdd]
     repeat' (first|(simp only [aD,a7,aJ,aM,aL,hfx,hf0,hf2,hf3,hx0,hx2,hx3,Int.toNat_natCast,htn,hs1,hs2,happ,hl1,hl2,ha,hdd,k1,k2,↓wA,↓wC,wB,aF,aE,reduceEqDiff,reduceAdd,reduceSub,reduceIte,reduceCtorEq,Nat.reduceBEq,reduceLT,aP])|(refine bO ?_)|(with_reducible refine And.intro ?_ ?_)|(with_reducible refine aQ ?_ ?_; focus omega)|(with_reducible refine aI ?_ ?_; focus (simp only [bQ]; omega))|(refine aG hG (congrArg (fun d:D=>some [d]) hu) rfl ?_)|(refine aH hG (congrArg (fun d:D=>some [d]) hu) rfl ?_)|((first|apply aB|apply aC|apply aA)<;>intro h<;>try simp only [h]))
     all_goals (refine aQ rfl ?_; rw [hwE,hdb,Bool.false_and])
   ·refine ⟨_,h,?_⟩
    simp only [tF,List.cons_append,List.nil_append,↓wA,↓wC,wB,aF,aE,reduceEqDiff,reduceAdd,reduceSub,reduceIte,reduceCtorEq,Nat.reduceBEq,reduceLT,aP]
    refine aR (freeze 3 none [1] (x:=.sl true 4 (dl Cs.s o.cs)) rfl rfl rfl) ?_
    simp only [bR,bD,D.unown,dA,↓wA,↓wC,wB,aF,aE,reduceEqDiff,reduceAdd,reduceSub,reduceIte,reduceCtorEq,Nat.reduceBEq,reduceLT,aP]
    cases hdd:decide (x.d<=o.day) with
    | true =>
     have hdb:bP o x=true:=by simp [bP,of_decide_eq_true hdd,of_decide_eq_true k1]
     repeat' (first|(simp only [aD,a7,aJ,aM,aL,hfx,hf0,hf2,hf3,hx0,hx2,hx3,Int.toNat_natCast,htn,hs1,hs2,happ,hl1,hl2,ha,hdd,k1,k2,↓wA,↓wC,wB,aF,aE,reduceEqDiff,reduceAdd,reduceSub,reduceIte,reduceCtorEq,Nat.reduceBEq,reduceLT,aP])|(refine bO ?_)|(with_reducible refine And.intro ?_ ?_)|(with_reducible refine aQ ?_ ?_; focus omega)|(with_reducible refine aI ?_ ?_; focus (simp only [bQ]; omega))|(refine aG hG (congrArg (fun d:D=>some [d]) hu) rfl ?_)|(refine aH hG (congrArg (fun d:D=>some [d]) hu) rfl ?_)|((first|apply aB|apply aC|apply aA)<;>intro h<;>try simp only [h]))
     all_goals (refine aQ rfl ?_; rw [hwE,hdb,Bool.true_and])
    | false =>
     have hdb:bP o x=false:=by simp [bP,of_decide_eq_false hdd]
     repeat' (first|(simp only [aD,a7,aJ,aM,aL,hfx,hf0,hf2,hf3,hx0,hx2,hx3,Int.toNat_natCast,htn,hs1,hs2,happ,hl1,hl2,ha,hdd,k1,k2,↓wA,↓wC,wB,aF,aE,reduceEqDiff,reduceAdd,reduceSub,reduceIte,reduceCtorEq,Nat.reduceBEq,reduceLT,aP])|(refine bO ?_)|(with_reducible refine And.intro ?_ ?_)|(with_reducible refine aQ ?_ ?_; focus omega)|(with_reducible refine aI ?_ ?_; focus (simp only [bQ]; omega))|(refine aG hG (congrArg (fun d:D=>some [d]) hu) rfl ?_)|(refine aH hG (congrArg (fun d:D=>some [d]) hu) rfl ?_)|((first|apply aB|apply aC|apply aA)<;>intro h<;>try simp only [h]))
     all_goals (refine aQ rfl ?_; rw [hwE,hdb,Bool.false_and])
   ·refine ⟨_,h,?_⟩
    simp only [tF,List.cons_append,List.nil_append,↓wA,↓wC,wB,aF,aE,reduceEqDiff,reduceAdd,reduceSub,reduceIte,reduceCtorEq,Nat.reduceBEq,reduceLT,aP]
    refine aR (freeze 4 none [1] (x:=.sl true 4 (dl Cs.s o.cs)) rfl rfl rfl) ?_
    simp only [bR,bD,D.unown,dA,↓wA,↓wC,wB,aF,aE,reduceEqDiff,reduceAdd,reduceSub,reduceIte,reduceCtorEq,Nat.reduceBEq,reduceLT,aP]
    cases hdd:decide (x.d<=o.day) with
    | true =>
     have hdb:bP o x=true:=by simp [bP,of_decide_eq_true hdd,of_decide_eq_true k1]
     repeat' (first|(simp only [aD,a7,aJ,aM,aL,hfx,hf0,hf2,hf3,hx0,hx2,hx3,Int.toNat_natCast,htn,hs1,hs2,happ,hl1,hl2,ha,hdd,k1,k2,↓wA,↓wC,wB,aF,aE,reduceEqDiff,reduceAdd,reduceSub,reduceIte,reduceCtorEq,Nat.reduceBEq,reduceLT,aP])|(refine bO ?_)|(with_reducible refine And.intro ?_ ?_)|(with_reducible refine aQ ?_ ?_; focus omega)|(with_reducible refine aI ?_ ?_; focus (simp only [bQ]; omega))|(refine aG hG (congrArg (fun d:D=>some [d]) hu) rfl ?_)|(refine aH hG (congrArg (fun d:D=>some [d]) hu) rfl ?_)|((first|apply aB|apply aC|apply aA)<;>intro h<;>try simp only [h]))
     all_goals (refine aQ rfl ?_; rw [hwE,hdb,Bool.true_and])
    | false =>
     have hdb:bP o x=false:=by simp [bP,of_decide_eq_false hdd]
     repeat' (first|(simp only [aD,a7,aJ,aM,aL,hfx,hf0,hf2,hf3,hx0,hx2,hx3,Int.toNat_natCast,htn,hs1,hs2,happ,hl1,hl2,ha,hdd,k1,k2,↓wA,↓wC,wB,aF,aE,reduceEqDiff,reduceAdd,reduceSub,reduceIte,reduceCtorEq,Nat.reduceBEq,reduceLT,aP])|(refine bO ?_)|(with_reducible refine And.intro ?_ ?_)|(with_reducible refine aQ ?_ ?_; focus omega)|(with_reducible refine aI ?_ ?_; focus (simp only [bQ]; omega))|(refine aG hG (congrArg (fun d:D=>some [d]) hu) rfl ?_)|(refine aH hG (congrArg (fun d:D=>some [d]) hu) rfl ?_)|((first|apply aB|apply aC|apply aA)<;>intro h<;>try simp only [h]))
     all_goals (refine aQ rfl ?_; rw [hwE,hdb,Bool.false_and])
  | false =>
   have k1':=of_decide_eq_false k1
   cases k2:decide (x.a=2) with
   | true =>
    have ha:=k2
    have hu:(D.st (.cons (.int .i64 o.day) (.cons (.sl true 4 (dl Cs.s (o.cs.eraseIdx i))) (.cons (.int .i64 o.kept) (.cons (.int .i64 (o.moved + 1)) (.cons (.sl true 1 (dl D.str o.led)) .nil)))))).unown=(fU o i x).s:=by
     unfold fU
     rw [if_neg k1',if_pos (of_decide_eq_true k2)]
     simp [Off.s,bD,D.unown,dA,gY]
    have hwE:(D.st (.cons (.int .i64 o.day) (.cons (.sl true 4 (dl Cs.s (o.cs.eraseIdx i))) (.cons (.int .i64 o.kept) (.cons (.int .i64 (o.moved + 1)) (.cons (.sl true 1 (dl D.str o.led)) .nil))))))=(fU o i x).w:=by
     unfold fU
     rw [if_neg k1',if_pos (of_decide_eq_true k2)]
     rfl
    rintro s' (h|h|h)
    ·refine ⟨_,h,?_⟩
     simp only [tF,List.cons_append,List.nil_append,↓wA,↓wC,wB,aF,aE,reduceEqDiff,reduceAdd,reduceSub,reduceIte,reduceCtorEq,Nat.reduceBEq,reduceLT,aP]
     refine aR (freeze 2 none [1] (x:=.sl true 4 (dl Cs.s o.cs)) rfl rfl rfl) ?_
     simp only [bR,bD,D.unown,dA,↓wA,↓wC,wB,aF,aE,reduceEqDiff,reduceAdd,reduceSub,reduceIte,reduceCtorEq,Nat.reduceBEq,reduceLT,aP]
     cases hdd:decide (x.d<=o.day) with
     | true =>
      have hdb:bP o x=true:=by simp [bP,of_decide_eq_true hdd,of_decide_eq_true k2]
      repeat' (first|(simp only [aD,a7,aJ,aM,aL,hfx,hf0,hf2,hf3,hx0,hx2,hx3,Int.toNat_natCast,htn,hs1,hs2,happ,hl1,hl2,ha,hdd,k1,k2,↓wA,↓wC,wB,aF,aE,reduceEqDiff,reduceAdd,reduceSub,reduceIte,reduceCtorEq,Nat.reduceBEq,reduceLT,aP])|(refine bO ?_)|(with_reducible refine And.intro ?_ ?_)|(with_reducible refine aQ ?_ ?_; focus omega)|(with_reducible refine aI ?_ ?_; focus (simp only [bQ]; omega))|(refine aG hG (congrArg (fun d:D=>some [d]) hu) rfl ?_)|(refine aH hG (congrArg (fun d:D=>some [d]) hu) rfl ?_)|((first|apply aB|apply aC|apply aA)<;>intro h<;>try simp only [h]))
      all_goals (refine aQ rfl ?_; rw [hwE,hdb,Bool.true_and])
     | false =>
      have hdb:bP o x=false:=by simp [bP,of_decide_eq_false hdd]
      repeat' (first|(simp only [aD,a7,aJ,aM,aL,hfx,hf0,hf2,hf3,hx0,hx2,hx3,Int.toNat_natCast,htn,hs1,hs2,happ,hl1,hl2,ha,hdd,k1,k2,↓wA,↓wC,wB,aF,aE,reduceEqDiff,reduceAdd,reduceSub,reduceIte,reduceCtorEq,Nat.reduceBEq,reduceLT,aP])|(refine bO ?_)|(with_reducible refine And.intro ?_ ?_)|(with_reducible refine aQ ?_ ?_; focus omega)|(with_reducible refine aI ?_ ?_; focus (simp only [bQ]; omega))|(refine aG hG (congrArg (fun d:D=>some [d]) hu) rfl ?_)|(refine aH hG (congrArg (fun d:D=>some [d]) hu) rfl ?_)|((first|apply aB|apply aC|apply aA)<;>intro h<;>try simp only [h]))
      all_goals (refine aQ rfl ?_; rw [hwE,hdb,Bool.false_and])
    ·refine ⟨_,h,?_⟩
     simp only [tF,List.cons_append,List.nil_append,↓wA,↓wC,wB,aF,aE,reduceEqDiff,reduceAdd,reduceSub,reduceIte,reduceCtorEq,Nat.reduceBEq,reduceLT,aP]
     refine aR (freeze 3 none [1] (x:=.sl true 4 (dl Cs.s o.cs)) rfl rfl rfl) ?_
     simp only [bR,bD,D.unown,dA,↓wA,↓wC,wB,aF,aE,reduceEqDiff,reduceAdd,reduceSub,reduceIte,reduceCtorEq,Nat.reduceBEq,reduceLT,aP]
     cases hdd:decide (x.d<=o.day) with
     | true =>
      have hdb:bP o x=true:=by simp [bP,of_decide_eq_true hdd,of_decide_eq_true k2]
      repeat' (first|(simp only [aD,a7,aJ,aM,aL,hfx,hf0,hf2,hf3,hx0,hx2,hx3,Int.toNat_natCast,htn,hs1,hs2,happ,hl1,hl2,ha,hdd,k1,k2,↓wA,↓wC,wB,aF,aE,reduceEqDiff,reduceAdd,reduceSub,reduceIte,reduceCtorEq,Nat.reduceBEq,reduceLT,aP])|(refine bO ?_)|(with_reducible refine And.intro ?_ ?_)|(with_reducible refine aQ ?_ ?_; focus omega)|(with_reducible refine aI ?_ ?_; focus (simp only [bQ]; omega))|(refine aG hG (congrArg (fun d:D=>some [d]) hu) rfl ?_)|(refine aH hG (congrArg (fun d:D=>some [d]) hu) rfl ?_)|((first|apply aB|apply aC|apply aA)<;>intro h<;>try simp only [h]))
      all_goals (refine aQ rfl ?_; rw [hwE,hdb,Bool.true_and])
     | false =>
      have hdb:bP o x=false:=by simp [bP,of_decide_eq_false hdd]
      repeat' (first|(simp only [aD,a7,aJ,aM,aL,hfx,hf0,hf2,hf3,hx0,hx2,hx3,Int.toNat_natCast,htn,hs1,hs2,happ,hl1,hl2,ha,hdd,k1,k2,↓wA,↓wC,wB,aF,aE,reduceEqDiff,reduceAdd,reduceSub,reduceIte,reduceCtorEq,Nat.reduceBEq,reduceLT,aP])|(refine bO ?_)|(with_reducible refine And.intro ?_ ?_)|(with_reducible refine aQ ?_ ?_; focus omega)|(with_reducible refine aI ?_ ?_; focus (simp only [bQ]; omega))|(refine aG hG (congrArg (fun d:D=>some [d]) hu) rfl ?_)|(refine aH hG (congrArg (fun d:D=>some [d]) hu) rfl ?_)|((first|apply aB|apply aC|apply aA)<;>intro h<;>try simp only [h]))
      all_goals (refine aQ rfl ?_; rw [hwE,hdb,Bool.false_and])
    ·refine ⟨_,h,?_⟩
     simp only [tF,List.cons_append,List.nil_append,↓wA,↓wC,wB,aF,aE,reduceEqDiff,reduceAdd,reduceSub,reduceIte,reduceCtorEq,Nat.reduceBEq,reduceLT,aP]
     refine aR (freeze 4 none [1] (x:=.sl true 4 (dl Cs.s o.cs)) rfl rfl rfl) ?_
     simp only [bR,bD,D.unown,dA,↓wA,↓wC,wB,aF,aE,reduceEqDiff,reduceAdd,reduceSub,reduceIte,reduceCtorEq,Nat.reduceBEq,reduceLT,aP]
     cases hdd:decide (x.d<=o.day) with
     | true =>
      have hdb:bP o x=true:=by simp [bP,of_decide_eq_true hdd,of_decide_eq_true k2]
      repeat' (first|(simp only [aD,a7,aJ,aM,aL,hfx,hf0,hf2,hf3,hx0,hx2,hx3,Int.toNat_natCast,htn,hs1,hs2,happ,hl1,hl2,ha,hdd,k1,k2,↓wA,↓wC,wB,aF,aE,reduceEqDiff,reduceAdd,reduceSub,reduceIte,reduceCtorEq,Nat.reduceBEq,reduceLT,aP])|(refine bO ?_)|(with_reducible refine And.intro ?_ ?_)|(with_reducible refine aQ ?_ ?_; focus omega)|(with_reducible refine aI ?_ ?_; focus (simp only [bQ]; omega))|(refine aG hG (congrArg (fun d:D=>some [d]) hu) rfl ?_)|(refine aH hG (congrArg (fun d:D=>some [d]) hu) rfl ?_)|((first|apply aB|apply aC|apply aA)<;>intro h<;>try simp only [h]))
      all_goals (refine aQ rfl ?_; rw [hwE,hdb,Bool.true_and])
     | false =>
      have hdb:bP o x=false:=by simp [bP,of_decide_eq_false hdd]
      repeat' (first|(simp only [aD,a7,aJ,aM,aL,hfx,hf0,hf2,hf3,hx0,hx2,hx3,Int.toNat_natCast,htn,hs1,hs2,happ,hl1,hl2,ha,hdd,k1,k2,↓wA,↓wC,wB,aF,aE,reduceEqDiff,reduceAdd,reduceSub,reduceIte,reduceCtorEq,Nat.reduceBEq,reduceLT,aP])|(refine bO ?_)|(with_reducible refine And.intro ?_ ?_)|(with_reducible refine aQ ?_ ?_; focus omega)|(with_reducible refine aI ?_ ?_; focus (simp only [bQ]; omega))|(refine aG hG (congrArg (fun d:D=>some [d]) hu) rfl ?_)|(refine aH hG (congrArg (fun d:D=>some [d]) hu) rfl ?_)|((first|apply aB|apply aC|apply aA)<;>intro h<;>try simp only [h]))
      all_goals (refine aQ rfl ?_; rw [hwE,hdb,Bool.false_and])
   | false =>
    have k2':=of_decide_eq_false k2
    have hxc:=cG (hp.2.2.2.2.2.2.2.2.2 x (List.mem_of_getElem? hr))
    have hN1:=aA7 x.i (by omega) (by simp only [bQ]; omega)
    have hN2:=aA7 o.day (by omega) (by simp only [bQ]; omega)
    have hI1:=jE x.i (by simp only [bQ]; omega)
    have hI2:=jE o.day (by simp only [bQ]; omega)
    have hE:114 :: (Lib.itoa x.i ++ 32 :: 100 :: Lib.itoa o.day)=g8 x.i o.day:=rfl
    have hu:(D.st (.cons (.int .i64 o.day) (.cons (.sl true 4 (dl Cs.s (o.cs.eraseIdx i))) (.cons (.int .i64 o.kept) (.cons (.int .i64 o.moved) (.cons (.sl true 1 (dl D.str (o.led ++ [g8 x.i o.day]))) .nil)))))).unown=(fU o i x).s:=by
     unfold fU
     rw [if_neg k1',if_neg k2']
     simp [Off.s,bD,D.unown,dA,gY]
    have hwE:(D.st (.cons (.int .i64 o.day) (.cons (.sl true 4 (dl Cs.s (o.cs.eraseIdx i))) (.cons (.int .i64 o.kept) (.cons (.int .i64 o.moved) (.cons (.sl true 1 (dl D.str (o.led ++ [g8 x.i o.day]))) .nil))))))=(fU o i x).w:=by
     unfold fU
     rw [if_neg k1',if_neg k2']
     rfl
    rintro s' (h|h|h)
    ·refine ⟨_,h,?_⟩
     simp only [tF,List.cons_append,List.nil_append,↓wA,↓wC,wB,aF,aE,reduceEqDiff,reduceAdd,reduceSub,reduceIte,reduceCtorEq,Nat.reduceBEq,reduceLT,aP]
     refine aR (freeze 2 none [1] (x:=.sl true 4 (dl Cs.s o.cs)) rfl rfl rfl) ?_
     simp only [bR,bD,D.unown,dA,↓wA,↓wC,wB,aF,aE,reduceEqDiff,reduceAdd,reduceSub,reduceIte,reduceCtorEq,Nat.reduceBEq,reduceLT,aP]
     repeat' (first|(simp only [aD,a7,aJ,aM,aL,hfx,hf0,hf2,hf3,hx0,hx2,hx3,Int.toNat_natCast,htn,hs1,hs2,happ,hl1,hl2,k1,k2,↓wA,↓wC,wB,aF,aE,reduceEqDiff,reduceAdd,reduceSub,reduceIte,reduceCtorEq,Nat.reduceBEq,reduceLT,aP])|(refine bO ?_)|(with_reducible refine aQ ?_ ?_; focus omega)|(with_reducible refine aI ?_ ?_; focus (simp only [bQ]; omega))|((first|apply aB|apply aC|apply aA)<;>intro h<;>try simp only [h]))
     refine cB _ (cU 2 none [4] (es:=1) (xs:=dl D.str o.led) rfl rfl) fun v2=>?_
     simp only [bR,↓wA,↓wC,wB,aF,aE,reduceEqDiff,reduceAdd,reduceSub,reduceIte,reduceCtorEq,Nat.reduceBEq,reduceLT,aP]
     have happ2:(dl D.str o.led).app (D.cons (.str (g8 x.i o.day)) .nil)=dl D.str (o.led ++ [g8 x.i o.day]):=eZ (f:=D.str) o.led _
     cases hdd:decide (x.d<=o.day) with
     | true =>
      have hdb:bP o x=decide (x.h.length=0):=by simp [bP,of_decide_eq_true hdd,k1',k2']
      cases hh:decide ((x.h.length:Int)=0) with
      | true =>
       have hdb2:bP o x=true:=by rw [hdb]; have:=of_decide_eq_true hh; exact decide_eq_true (by omega)
       repeat' (first|(simp only [aD,a7,aJ,aM,aL,aS,hfx,hf0,hf2,hf3,hx0,hx2,hx3,k1,k2,hdd,hh,hE,happ2,↓wA,↓wC,wB,aF,aE,reduceEqDiff,reduceAdd,reduceSub,reduceIte,reduceCtorEq,Nat.reduceBEq,reduceLT,aP])|(refine aG (hN1) rfl rfl ?_)|(refine aH (hN1) rfl rfl ?_)|(refine aG (hN2) rfl rfl ?_)|(refine aH (hN2) rfl rfl ?_)|(refine bO ?_)|(with_reducible refine And.intro ?_ ?_)|(with_reducible refine aQ ?_ ?_; focus omega)|(with_reducible refine aQ ?_ ?_; focus (simp; done))|(with_reducible refine aI ?_ ?_; focus (simp only [bQ]; omega))|(refine aG hG (congrArg (fun d:D=>some [d]) hu) rfl ?_)|(refine aH hG (congrArg (fun d:D=>some [d]) hu) rfl ?_)|((first|apply aB|apply aC|apply aA)<;>intro h<;>try simp only [h]))
       all_goals (refine aQ rfl ?_; rw [hwE,hdb2,Bool.true_and])
      | false =>
       have hdb2:bP o x=false:=by rw [hdb]; have:=of_decide_eq_false hh; exact decide_eq_false (by omega)
       repeat' (first|(simp only [aD,a7,aJ,aM,aL,aS,hfx,hf0,hf2,hf3,hx0,hx2,hx3,k1,k2,hdd,hh,hE,happ2,↓wA,↓wC,wB,aF,aE,reduceEqDiff,reduceAdd,reduceSub,reduceIte,reduceCtorEq,Nat.reduceBEq,reduceLT,aP])|(refine aG (hN1) rfl rfl ?_)|(refine aH (hN1) rfl rfl ?_)|(refine aG (hN2) rfl rfl ?_)|(refine aH (hN2) rfl rfl ?_)|(refine bO ?_)|(with_reducible refine And.intro ?_ ?_)|(with_reducible refine aQ ?_ ?_; focus omega)|(with_reducible refine aQ ?_ ?_; focus (simp; done))|(with_reducible refine aI ?_ ?_; focus (simp only [bQ]; omega))|(refine aG hG (congrArg (fun d:D=>some [d]) hu) rfl ?_)|(refine aH hG (congrArg (fun d:D=>some [d]) hu) rfl ?_)|((first|apply aB|apply aC|apply aA)<;>intro h<;>try simp only [h]))
       all_goals (refine aQ rfl ?_; rw [hwE,hdb2,Bool.false_and])
     | false =>
      have hdb2:bP o x=false:=by simp [bP,of_decide_eq_false hdd]
      repeat' (first|(simp only [aD,a7,aJ,aM,aL,aS,hfx,hf0,hf2,hf3,hx0,hx2,hx3,k1,k2,hdd,hE,happ2,↓wA,↓wC,wB,aF,aE,reduceEqDiff,reduceAdd,reduceSub,reduceIte,reduceCtorEq,Nat.reduceBEq,reduceLT,aP])|(refine aG (hN1) rfl rfl ?_)|(refine aH (hN1) rfl rfl ?_)|(refine aG (hN2) rfl rfl ?_)|(refine aH (hN2) rfl rfl ?_)|(refine bO ?_)|(with_reducible refine And.intro ?_ ?_)|(with_reducible refine aQ ?_ ?_; focus omega)|(with_reducible refine aQ ?_ ?_; focus (simp; done))|(with_reducible refine aI ?_ ?_; focus (simp only [bQ]; omega))|(refine aG hG (congrArg (fun d:D=>some [d]) hu) rfl ?_)|(refine aH hG (congrArg (fun d:D=>some [d]) hu) rfl ?_)|((first|apply aB|apply aC|apply aA)<;>intro h<;>try simp only [h]))
      all_goals (refine aQ rfl ?_; rw [hwE,hdb2,Bool.false_and])
    ·refine ⟨_,h,?_⟩
     simp only [tF,List.cons_append,List.nil_append,↓wA,↓wC,wB,aF,aE,reduceEqDiff,reduceAdd,reduceSub,reduceIte,reduceCtorEq,Nat.reduceBEq,reduceLT,aP]
     refine aR (freeze 3 none [1] (x:=.sl true 4 (dl Cs.s o.cs)) rfl rfl rfl) ?_
     simp only [bR,bD,D.unown,dA,↓wA,↓wC,wB,aF,aE,reduceEqDiff,reduceAdd,reduceSub,reduceIte,reduceCtorEq,Nat.reduceBEq,reduceLT,aP]
     repeat' (first|(simp only [aD,a7,aJ,aM,aL,hfx,hf0,hf2,hf3,hx0,hx2,hx3,Int.toNat_natCast,htn,hs1,hs2,happ,hl1,hl2,k1,k2,↓wA,↓wC,wB,aF,aE,reduceEqDiff,reduceAdd,reduceSub,reduceIte,reduceCtorEq,Nat.reduceBEq,reduceLT,aP])|(refine bO ?_)|(with_reducible refine aQ ?_ ?_; focus omega)|(with_reducible refine aI ?_ ?_; focus (simp only [bQ]; omega))|((first|apply aB|apply aC|apply aA)<;>intro h<;>try simp only [h]))
     refine cB _ (cU 3 none [4] (es:=1) (xs:=dl D.str o.led) rfl rfl) fun v2=>?_
     simp only [bR,↓wA,↓wC,wB,aF,aE,reduceEqDiff,reduceAdd,reduceSub,reduceIte,reduceCtorEq,Nat.reduceBEq,reduceLT,aP]
     have happ2:(dl D.str o.led).app (D.cons (.str (g8 x.i o.day)) .nil)=dl D.str (o.led ++ [g8 x.i o.day]):=eZ (f:=D.str) o.led _
     cases hdd:decide (x.d<=o.day) with
     | true =>
      have hdb:bP o x=decide (x.h.length=0):=by simp [bP,of_decide_eq_true hdd,k1',k2']
      cases hh:decide ((x.h.length:Int)=0) with
      | true =>
       have hdb2:bP o x=true:=by rw [hdb]; have:=of_decide_eq_true hh; exact decide_eq_true (by omega)
       repeat' (first|(simp only [aD,a7,aJ,aM,aL,aS,hfx,hf0,hf2,hf3,hx0,hx2,hx3,k1,k2,hdd,hh,hE,happ2,↓wA,↓wC,wB,aF,aE,reduceEqDiff,reduceAdd,reduceSub,reduceIte,reduceCtorEq,Nat.reduceBEq,reduceLT,aP])|(refine aG (hN1) rfl rfl ?_)|(refine aH (hN1) rfl rfl ?_)|(refine aG (hN2) rfl rfl ?_)|(refine aH (hN2) rfl rfl ?_)|(refine bO ?_)|(with_reducible refine And.intro ?_ ?_)|(with_reducible refine aQ ?_ ?_; focus omega)|(with_reducible refine aQ ?_ ?_; focus (simp; done))|(with_reducible refine aI ?_ ?_; focus (simp only [bQ]; omega))|(refine aG hG (congrArg (fun d:D=>some [d]) hu) rfl ?_)|(refine aH hG (congrArg (fun d:D=>some [d]) hu) rfl ?_)|((first|apply aB|apply aC|apply aA)<;>intro h<;>try simp only [h]))
       all_goals (refine aQ rfl ?_; rw [hwE,hdb2,Bool.true_and])
      | false =>
       have hdb2:bP o x=false:=by rw [hdb]; have:=of_decide_eq_false hh; exact decide_eq_false (by omega)
       repeat' (first|(simp only [aD,a7,aJ,aM,aL,aS,hfx,hf0,hf2,hf3,hx0,hx2,hx3,k1,k2,hdd,hh,hE,happ2,↓wA,↓wC,wB,aF,aE,reduceEqDiff,reduceAdd,reduceSub,reduceIte,reduceCtorEq,Nat.reduceBEq,reduceLT,aP])|(refine aG (hN1) rfl rfl ?_)|(refine aH (hN1) rfl rfl ?_)|(refine aG (hN2) rfl rfl ?_)|(refine aH (hN2) rfl rfl ?_)|(refine bO ?_)|(with_reducible refine And.intro ?_ ?_)|(with_reducible refine aQ ?_ ?_; focus omega)|(with_reducible refine aQ ?_ ?_; focus (simp; done))|(with_reducible refine aI ?_ ?_; focus (simp only [bQ]; omega))|(refine aG hG (congrArg (fun d:D=>some [d]) hu) rfl ?_)|(refine aH hG (congrArg (fun d:D=>some [d]) hu) rfl ?_)|((first|apply aB|apply aC|apply aA)<;>intro h<;>try simp only [h]))
       all_goals (refine aQ rfl ?_; rw [hwE,hdb2,Bool.false_and])
     | false =>
      have hdb2:bP o x=false:=by simp [bP,of_decide_eq_false hdd]
      repeat' (first|(simp only [aD,a7,aJ,aM,aL,aS,hfx,hf0,hf2,hf3,hx0,hx2,hx3,k1,k2,hdd,hE,happ2,↓wA,↓wC,wB,aF,aE,reduceEqDiff,reduceAdd,reduceSub,reduceIte,reduceCtorEq,Nat.reduceBEq,reduceLT,aP])|(refine aG (hN1) rfl rfl ?_)|(refine aH (hN1) rfl rfl ?_)|(refine aG (hN2) rfl rfl ?_)|(refine aH (hN2) rfl rfl ?_)|(refine bO ?_)|(with_reducible refine And.intro ?_ ?_)|(with_reducible refine aQ ?_ ?_; focus omega)|(with_reducible refine aQ ?_ ?_; focus (simp; done))|(with_reducible refine aI ?_ ?_; focus (simp only [bQ]; omega))|(refine aG hG (congrArg (fun d:D=>some [d]) hu) rfl ?_)|(refine aH hG (congrArg (fun d:D=>some [d]) hu) rfl ?_)|((first|apply aB|apply aC|apply aA)<;>intro h<;>try simp only [h]))
      all_goals (refine aQ rfl ?_; rw [hwE,hdb2,Bool.false_and])
    ·refine ⟨_,h,?_⟩
     simp only [tF,List.cons_append,List.nil_append,↓wA,↓wC,wB,aF,aE,reduceEqDiff,reduceAdd,reduceSub,reduceIte,reduceCtorEq,Nat.reduceBEq,reduceLT,aP]
     refine aR (freeze 4 none [1] (x:=.sl true 4 (dl Cs.s o.cs)) rfl rfl rfl) ?_
     simp only [bR,bD,D.unown,dA,↓wA,↓wC,wB,aF,aE,reduceEqDiff,reduceAdd,reduceSub,reduceIte,reduceCtorEq,Nat.reduceBEq,reduceLT,aP]
     repeat' (first|(simp only [aD,a7,aJ,aM,aL,hfx,hf0,hf2,hf3,hx0,hx2,hx3,Int.toNat_natCast,htn,hs1,hs2,happ,hl1,hl2,k1,k2,↓wA,↓wC,wB,aF,aE,reduceEqDiff,reduceAdd,reduceSub,reduceIte,reduceCtorEq,Nat.reduceBEq,reduceLT,aP])|(refine bO ?_)|(with_reducible refine aQ ?_ ?_; focus omega)|(with_reducible refine aI ?_ ?_; focus (simp only [bQ]; omega))|((first|apply aB|apply aC|apply aA)<;>intro h<;>try simp only [h]))
     refine cB _ (cU 4 none [4] (es:=1) (xs:=dl D.str o.led) rfl rfl) fun v2=>?_
     simp only [bR,↓wA,↓wC,wB,aF,aE,reduceEqDiff,reduceAdd,reduceSub,reduceIte,reduceCtorEq,Nat.reduceBEq,reduceLT,aP]
     have happ2:(dl D.str o.led).app (D.cons (.str (g8 x.i o.day)) .nil)=dl D.str (o.led ++ [g8 x.i o.day]):=eZ (f:=D.str) o.led _
     cases hdd:decide (x.d<=o.day) with
     | true =>
      have hdb:bP o x=decide (x.h.length=0):=by simp [bP,of_decide_eq_true hdd,k1',k2']
      cases hh:decide ((x.h.length:Int)=0) with
      | true =>
       have hdb2:bP o x=true:=by rw [hdb]; have:=of_decide_eq_true hh; exact decide_eq_true (by omega)
       repeat' (first|(simp only [aD,a7,aJ,aM,aL,aS,hfx,hf0,hf2,hf3,hx0,hx2,hx3,k1,k2,hdd,hh,hE,happ2,↓wA,↓wC,wB,aF,aE,reduceEqDiff,reduceAdd,reduceSub,reduceIte,reduceCtorEq,Nat.reduceBEq,reduceLT,aP])|(refine aG (hN1) rfl rfl ?_)|(refine aH (hN1) rfl rfl ?_)|(refine aG (hN2) rfl rfl ?_)|(refine aH (hN2) rfl rfl ?_)|(refine bO ?_)|(with_reducible refine And.intro ?_ ?_)|(with_reducible refine aQ ?_ ?_; focus omega)|(with_reducible refine aQ ?_ ?_; focus (simp; done))|(with_reducible refine aI ?_ ?_; focus (simp only [bQ]; omega))|(refine aG hG (congrArg (fun d:D=>some [d]) hu) rfl ?_)|(refine aH hG (congrArg (fun d:D=>some [d]) hu) rfl ?_)|((first|apply aB|apply aC|apply aA)<;>intro h<;>try simp only [h]))
       all_goals (refine aQ rfl ?_; rw [hwE,hdb2,Bool.true_and])
      | false =>
       have hdb2:bP o x=false:=by rw [hdb]; have:=of_decide_eq_false hh; exact decide_eq_false (by omega)
       repeat' (first|(simp only [aD,a7,aJ,aM,aL,aS,hfx,hf0,hf2,hf3,hx0,hx2,hx3,k1,k2,hdd,hh,hE,happ2,↓wA,↓wC,wB,aF,aE,reduceEqDiff,reduceAdd,reduceSub,reduceIte,reduceCtorEq,Nat.reduceBEq,reduceLT,aP])|(refine aG (hN1) rfl rfl ?_)|(refine aH (hN1) rfl rfl ?_)|(refine aG (hN2) rfl rfl ?_)|(refine aH (hN2) rfl rfl ?_)|(refine bO ?_)|(with_reducible refine And.intro ?_ ?_)|(with_reducible refine aQ ?_ ?_; focus omega)|(with_reducible refine aQ ?_ ?_; focus (simp; done))|(with_reducible refine aI ?_ ?_; focus (simp only [bQ]; omega))|(refine aG hG (congrArg (fun d:D=>some [d]) hu) rfl ?_)|(refine aH hG (congrArg (fun d:D=>some [d]) hu) rfl ?_)|((first|apply aB|apply aC|apply aA)<;>intro h<;>try simp only [h]))
       all_goals (refine aQ rfl ?_; rw [hwE,hdb2,Bool.false_and])
     | false =>
      have hdb2:bP o x=false:=by simp [bP,of_decide_eq_false hdd]
      repeat' (first|(simp only [aD,a7,aJ,aM,aL,aS,hfx,hf0,hf2,hf3,hx0,hx2,hx3,k1,k2,hdd,hE,happ2,↓wA,↓wC,wB,aF,aE,reduceEqDiff,reduceAdd,reduceSub,reduceIte,reduceCtorEq,Nat.reduceBEq,reduceLT,aP])|(refine aG (hN1) rfl rfl ?_)|(refine aH (hN1) rfl rfl ?_)|(refine aG (hN2) rfl rfl ?_)|(refine aH (hN2) rfl rfl ?_)|(refine bO ?_)|(with_reducible refine And.intro ?_ ?_)|(with_reducible refine aQ ?_ ?_; focus omega)|(with_reducible refine aQ ?_ ?_; focus (simp; done))|(with_reducible refine aI ?_ ?_; focus (simp only [bQ]; omega))|(refine aG hG (congrArg (fun d:D=>some [d]) hu) rfl ?_)|(refine aH hG (congrArg (fun d:D=>some [d]) hu) rfl ?_)|((first|apply aB|apply aC|apply aA)<;>intro h<;>try simp only [h]))
      all_goals (refine aQ rfl ?_; rw [hwE,hdb2,Bool.false_and])
end Go.Pe.Tryz
set_option maxRecDepth 100000
set_option maxHeartbeats 4000000
set_option linter.all false
namespace Go.Pe.Tryz
open Nat (reduceEqDiff reduceAdd reduceSub reduceLT)
open Go.Proofs.Tryz
end Go.Pe.Tryz
set_option maxRecDepth 100000
set_option maxHeartbeats 4000000
set_option linter.all false
namespace Go.Pe.Tryz
open Nat (reduceEqDiff reduceAdd reduceSub reduceLT)
open Go.Proofs.Tryz
theorem aFN (v:List Int) (p:Int) (hlen:v.length<=1048576) (hp:p ∉ v):Fn prog 77 [.sl false 1 (dl iD v),.int .i64 p] (fun rs=>rs=[.sl true 1 (dl iD (gA p v))]):=by
 refine a8 (fn:=f77) (by exact func77) c77 r77 (n:=45) (by rfl) (rv:=[.tmp 4]) (by rfl) (by simp) ?_
 unfold m77
 try simp only [wQ]
 simp only [↓wA,↓wC,wB,aF,aE,reduceEqDiff,reduceAdd,reduceSub,reduceIte,reduceCtorEq,Nat.reduceBEq,reduceLT]
 refine cZ (fun k:Nat=>⟨[(0,.d (.sl false 1 (dl iD v))),(1,.d (.int .i64 p)),(5,.d (.int .i64 k))],[]⟩) (fun k=>k<=v.length/\∀ m x,m < k->v[m]?=some x->x < p) (fun k=>v.length - k) 0 (aN _ rfl ⟨⟨rfl,rfl⟩,⟨rfl,rfl⟩,⟨rfl,rfl⟩,trivial⟩) ⟨by omega,fun m x hm _=>by omega⟩ ?_
 rintro k ⟨hk,hinv⟩
 have h0:(0:Int)<=(k:Int):=by omega
 have hs1:(dl iD v).sub 0 k=dl iD (v.take k):=by rw [lP]; rfl
 have hs2:(dl iD v).sub k v.length=dl iD (v.drop k):=by rw [lP,List.take_length]
 have hs3:(dl iD v).sub v.length v.length=dl iD (v.drop v.length):=by rw [lP,List.take_length]
 have hs4:(dl iD v).sub 0 v.length=dl iD (v.take v.length):=by rw [lP]; rfl
 by_cases hlt:k < v.length
 ·obtain ⟨x,hx⟩:=bM hlt
  have hd:decide ((k:Int) < (v.length:Int))=true:=decide_eq_true (by omega)
  cases hc:decide (x < p) with
  | true =>
   repeat' (first|(simp only [aJ,hd,h0,hc,aX,Int.toNat_natCast,hx,Option.map_some,iM,aD,↓wA,↓wC,wB,aF,aE,reduceEqDiff,reduceAdd,reduceSub,reduceIte,reduceCtorEq,Nat.reduceBEq,reduceLT])|(with_reducible refine aI ?_ ?_; focus (simp only [bQ]; omega))|((first|apply aB|apply aC|apply aA)<;>intro h<;>try simp only [h]))
   refine ⟨k + 1,(aN _ rfl ⟨⟨rfl,rfl⟩,⟨rfl,rfl⟩,⟨rfl,rfl⟩,trivial⟩),⟨by omega,fun m z hm hz=>?_⟩,by omega⟩
   by_cases e:m=k
   ·subst e
    rw [hx] at hz
    injection hz with hz
    rw [<- hz]
    exact of_decide_eq_true hc
   ·exact hinv m z (by omega) hz
  | false =>
   have hpos:=yK v k hk hinv (fun z hz=>by
    rw [hx] at hz
    injection hz with hz
    rw [<- hz]
    exact of_decide_eq_false hc)
   have hne:decide (x=p)=false:=decide_eq_false (fun e=>hp (e ▸ List.mem_of_getElem? hx))
   rw [gA,hpos]
   repeat' (first|(simp only [aJ,hd,h0,hc,hne,aX,Int.toNat_natCast,hx,Option.map_some,iM,aD,↓wA,↓wC,wB,aF,aE,reduceEqDiff,reduceAdd,reduceSub,reduceIte,reduceCtorEq,Nat.reduceBEq,reduceLT])|(refine bO ?_)|(with_reducible refine And.intro ?_ ?_)|(with_reducible refine aQ ?_ ?_; focus omega)|(with_reducible refine aQ ?_ ?_; focus (simp; done))|(with_reducible refine aQ ?_ ?_; focus (simp; omega))|(with_reducible refine aI ?_ ?_; focus (simp only [bQ]; omega))|((first|apply aB|apply aC|apply aA)<;>intro h<;>try simp only [h]))
   all_goals
    simp only [hs1,hs2,eX,pZ,aJ,List.length_append,List.length_take,List.length_drop,List.length_singleton,Nat.min_eq_left hk]
    repeat' (first|(with_reducible refine aQ ?_ ?_; focus omega)|(with_reducible refine aQ ?_ ?_; focus (simp; done)))
    all_goals simp [List.append_assoc]
 ·have hd:decide ((k:Int) < (v.length:Int))=false:=decide_eq_false (by omega)
  have e:k=v.length:=by omega
  have hpos:=yK v k hk hinv (fun z hz=>absurd (aK hz) (by omega))
  rw [gA,hpos]
  subst e
  repeat' (first|(simp only [aJ,hd,h0,Int.toNat_natCast,iM,aD,↓wA,↓wC,wB,aF,aE,reduceEqDiff,reduceAdd,reduceSub,reduceIte,reduceCtorEq,Nat.reduceBEq,reduceLT])|(refine bO ?_)|(with_reducible refine And.intro ?_ ?_)|(with_reducible refine aQ ?_ ?_; focus omega)|(with_reducible refine aQ ?_ ?_; focus (simp; done))|(with_reducible refine aQ ?_ ?_; focus (simp; omega))|(with_reducible refine aI ?_ ?_; focus (simp only [bQ]; omega))|((first|apply aB|apply aC|apply aA)<;>intro h<;>try simp only [h]))
  all_goals
   simp only [hs3,hs4,eX,pZ,aJ,List.length_append,List.length_take,List.length_drop,List.length_singleton,Nat.min_eq_left hk]
   repeat' (first|(with_reducible refine aQ ?_ ?_; focus omega)|(with_reducible refine aQ ?_ ?_; focus (simp; done)))
   all_goals simp [List.append_assoc]
end Go.Pe.Tryz
set_option maxRecDepth 100000
set_option maxHeartbeats 4000000
set_option linter.all false
namespace Go.Pe.Tryz
open Nat (reduceEqDiff reduceAdd reduceSub reduceLT)
open Go.Proofs.Tryz
def MkR (o:Off) (k id a v:Int) (rs:List D):Prop:=∃ q:Off,rs=[q.w,.bool (nL o k id a v).isSome]/\∀ q',nL o k id a v=some q'->q'=q
theorem aBi {o q:Off} {k id a v:Int} (h:d4 o k id a v=some q):nL o k id a v=if bN q=true then some q else none:=by
 unfold nL; rw [h]; rfl
theorem mW {o q:Off} {k id a v:Int} (h:d4 o k id a v=some q) {x:D} {b:Bool} (hx:x=q.w) (hb:b=bN q):MkR o k id a v [x,.bool b]:=by
 have hm:=aBi h
 refine ⟨q,?_,fun q' h'=>?_⟩
 ·rw [hx,hb,hm]
  cases bN q<;>rfl
 ·rw [hm] at h'
  split at h'
  ·injection h' with h'; exact h'.symm
  ·cases h'
theorem rX {o:Off} {k id a v:Int} (q:Off) (h:d4 o k id a v=none) {x:D} (hx:x=q.w):MkR o k id a v [x,.bool false]:=by
 have hm:nL o k id a v=none:=by unfold nL; rw [h]; rfl
 exact ⟨q,by rw [hx,hm]; rfl,fun q' h'=>by rw [hm] at h'; cases h'⟩
theorem Off.w_unown (o:Off):o.w.unown=o.s:=by simp [Off.w,Off.s,bD,D.unown,dA,gY]
theorem Off.w_noOwn (o:Off):o.w.noOwn=false:=by simp [Off.w,bD,D.noOwn]
theorem mE {o q:Off} {k id a v:Int} (ho:bN o=true) (h:d4 o k id a v=some q):q.ok0:=by
 have hp:=bT ho
 have h0:=dK ho
 have hc:∀ (i:Nat) (x:Cs),o.cs[i]?=some x->dP x=true:=fun i x hr=>hp.2.2.2.2.2.2.2.2.2 x (List.mem_of_getElem? hr)
 unfold d4 at h
 split at h
 ·split at h
  ·cases h
  ·injection h with h; subst h; exact h0
 split at h
 ·split at h
  ·cases h
  ·injection h with h
   subst h
   refine ⟨⟨?_,fun x hx=>?_⟩,h0.2⟩
   ·simp [eC]; omega
   ·rcases List.mem_append.1 hx with hx|hx
    ·exact h0.1.2 x (List.mem_of_mem_take hx)
    ·rcases List.mem_cons.1 hx with rfl|hx
     ·simp [Cs.ok0]
     ·exact h0.1.2 x (List.mem_of_mem_drop hx)
 split at h
 ·split at h
  ·injection h with h
   subst h
   refine ⟨⟨by simpa using h0.1.1,fun x hx=>?_⟩,h0.2⟩
   obtain ⟨y,hy,rfl⟩:=List.mem_map.1 hx
   exact Nat.le_trans (List.length_filter_le (fun n=>!decide (n=v)) y.h) (h0.1.2 y hy)
  ·cases h
 split at h
 ·rename_i x hr
  have hxc:=cG (hc _ x hr)
  split at h
  ·split at h
   ·cases h
   ·injection h with h
    subst h
    refine ⟨tX h0.1 ?_,h0.2⟩
    show (gA v x.h).length<=1048576
    rw [aA5]; omega
  ·split at h
   ·split at h
    ·cases h
    ·injection h with h
     subst h
     refine ⟨tX h0.1 ?_,h0.2⟩
     show x.h.length<=1048576
     omega
   ·split at h
    ·injection h with h
     subst h
     have he:∀ i,oV (o.cs.eraseIdx i):=fun i=>⟨by have:=List.length_eraseIdx_le o.cs i; omega,fun y hy=>h0.1.2 y (List.mem_of_mem_eraseIdx hy)⟩
     unfold fU
     split
     ·exact ⟨he _,h0.2⟩
     ·split
      ·exact ⟨he _,h0.2⟩
      ·refine ⟨he _,by simp; omega,fun s hs=>?_⟩
       rcases List.mem_append.1 hs with hs|hs
       ·exact h0.2.2 s hs
       ·rw [List.mem_singleton.1 hs]
        have h1:=jE x.i (by simp only [bQ]; omega)
        have h2:=jE o.day (by simp only [bQ]; omega)
        simp [g8]; omega
    ·cases h
 ·cases h
theorem aFW (o:Off) (id a v:Int) (ho:bN o=true) (hs:iG o 1 id a v=true):Fn prog 42 [o.s,gJ 1 id a v] (MkR o 1 id a v):=by
 have hk1:decide ((1:Int)=1)=true:=rfl
 have hk2:decide ((1:Int)=2)=false:=rfl
 have hk3:decide ((1:Int)=3)=false:=rfl
 have hk4:decide ((1:Int)=4)=false:=rfl
 have hk5:decide ((1:Int)=5)=false:=rfl
 have hp:=bT ho
 have ho0:=dK ho
 have hO:=fA o ho0
 have hF:=iA o id ho0
 have hv:1<=v:=by simp [iG] at hs; exact hs.2
 refine dL (ps:=[[1,0],[1,0]]) (fn:=f42) (by exact func42) c42 r42 (n:=118) (by rfl) (rv:=[.cell 4 27,.tmp 5]) (by rfl) (by simp) ?_
 unfold m42
 try simp only [wQ]
 simp only [cI,dD]
 simp only [gJ]
 repeat' (first|(simp only [Off.s_noOwn,Off.s_isV,aD,↓wA,↓wC,wB,aF,aE,reduceEqDiff,reduceAdd,reduceSub,reduceIte,reduceCtorEq,Nat.reduceBEq,reduceLT,aP])|((first|apply aB|apply aC|apply aA)<;>intro h<;>try simp only [h]))
 refine aR (dU 0 rfl) ?_
 simp only [aF,aE,Off.s_unown,↓wA,↓wC,wB,aF,aE,reduceEqDiff,reduceAdd,reduceSub,reduceIte,reduceCtorEq,Nat.reduceBEq,reduceLT,aP]
 refine aR (dU 1 rfl) ?_
 simp only [aF,aE,D.unown,↓wA,↓wC,wB,aF,aE,reduceEqDiff,reduceAdd,reduceSub,reduceIte,reduceCtorEq,Nat.reduceBEq,reduceLT,aP]
 have hf0:∀ K:SV->Prop,aT 0 0 (.d (.ptr o.s)) K=K (.d (.ptr (.int .i64 o.day))):=fun K=>by simp [Off.s,bD,aT,D.pre,D.nth,D.size]
 have hf1:∀ K:SV->Prop,aT 1 1 (.d (.ptr o.s)) K=K (.d (.ptr (.sl false 4 (dl Cs.s o.cs)))):=fun K=>by simp [Off.s,bD,aT,D.pre,D.nth,D.size]
 cases hd:decide (20000 - o.day < v) with
 | true =>
  have hM:d4 o 1 id a v=none:=by unfold d4; rw [if_pos rfl,if_pos (of_decide_eq_true hd)]
  repeat' (first|(simp only [hk1,hk2,hk3,hk4,hk5,Off.s_noOwn,Off.s_isV,Off.s_size,Off.w,bD,aM,aL,hf0,hf1,hd,↓bG,aD,a7,Int.toNat_natCast,↓wA,↓wC,wB,aF,aE,reduceEqDiff,reduceAdd,reduceSub,reduceIte,reduceCtorEq,Nat.reduceBEq,reduceLT,aP])|(refine bO ?_)|(with_reducible refine And.intro ?_ ?_)|(refine aG hO (by simp [bE,bV,Off.s_unown]) rfl ?_)|(refine aG hF (by simp [bE,bV,Off.s_unown]) rfl ?_)|(with_reducible refine aI ?_ ?_; focus (simp only [bQ]; omega))|((first|apply aB|apply aC|apply aA)<;>intro h<;>try simp only [h]))
  all_goals exact rX o hM rfl
 | false =>
  have hM:d4 o 1 id a v=some { o with day:=o.day + v }:=by unfold d4; rw [if_pos rfl,if_neg (of_decide_eq_false hd)]
  have hG:=eF _ (mE ho hM)
  have hd':=of_decide_eq_false hd
  have hu:(D.st (.cons (.int .i64 (o.day + v)) (.cons (.sl true 4 (dl Cs.s o.cs)) (.cons (.int .i64 o.kept) (.cons (.int .i64 o.moved) (.cons (.sl true 1 (dl D.str o.led)) .nil)))))).unown=Off.s { o with day:=o.day + v }:=Off.w_unown { o with day:=o.day + v }
  repeat' (first|(simp only [hk1,hk2,hk3,hk4,hk5,Off.s_noOwn,Off.s_isV,Off.s_size,Off.w,bD,aM,aL,hf0,hf1,hd,↓bG,aD,a7,Int.toNat_natCast,↓wA,↓wC,wB,aF,aE,reduceEqDiff,reduceAdd,reduceSub,reduceIte,reduceCtorEq,Nat.reduceBEq,reduceLT,aP])|(refine bO ?_)|(with_reducible refine And.intro ?_ ?_)|(refine aG hO (by simp [bE,bV,Off.s_unown]) rfl ?_)|(refine aG hF (by simp [bE,bV,Off.s_unown]) rfl ?_)|(with_reducible refine aI ?_ ?_; focus (simp only [bQ]; omega))|(refine aG hG (congrArg (fun d:D=>some [d]) hu) rfl ?_)|(refine aH hG (congrArg (fun d:D=>some [d]) hu) rfl ?_)|((first|apply aB|apply aC|apply aA)<;>intro h<;>try simp only [h]))
  all_goals exact mW hM rfl rfl
theorem aE5 (o:Off) (id a v:Int) (ho:bN o=true) (hs:iG o 2 id a v=true):Fn prog 42 [o.s,gJ 2 id a v] (MkR o 2 id a v):=by
 have hk1:decide ((2:Int)=1)=false:=rfl
 have hk2:decide ((2:Int)=2)=true:=rfl
 have hk3:decide ((2:Int)=3)=false:=rfl
 have hk4:decide ((2:Int)=4)=false:=rfl
 have hk5:decide ((2:Int)=5)=false:=rfl
 have hp:=bT ho
 have ho0:=dK ho
 have hO:=fA o ho0
 have hF:=iA o id ho0
 have hv:0<=v:=by simp [iG] at hs; exact hs.2
 refine dL (ps:=[[1,0],[1,0]]) (fn:=f42) (by exact func42) c42 r42 (n:=118) (by rfl) (rv:=[.cell 4 27,.tmp 5]) (by rfl) (by simp) ?_
 unfold m42
 try simp only [wQ]
 simp only [cI,dD]
 simp only [gJ]
 repeat' (first|(simp only [Off.s_noOwn,Off.s_isV,aD,↓wA,↓wC,wB,aF,aE,reduceEqDiff,reduceAdd,reduceSub,reduceIte,reduceCtorEq,Nat.reduceBEq,reduceLT,aP])|((first|apply aB|apply aC|apply aA)<;>intro h<;>try simp only [h]))
 refine aR (dU 0 rfl) ?_
 simp only [aF,aE,Off.s_unown,↓wA,↓wC,wB,aF,aE,reduceEqDiff,reduceAdd,reduceSub,reduceIte,reduceCtorEq,Nat.reduceBEq,reduceLT,aP]
 refine aR (dU 1 rfl) ?_
 simp only [aF,aE,D.unown,↓wA,↓wC,wB,aF,aE,reduceEqDiff,reduceAdd,reduceSub,reduceIte,reduceCtorEq,Nat.reduceBEq,reduceLT,aP]
 have hf0:∀ K:SV->Prop,aT 0 0 (.d (.ptr o.s)) K=K (.d (.ptr (.int .i64 o.day))):=fun K=>by simp [Off.s,bD,aT,D.pre,D.nth,D.size]
 have hf1:∀ K:SV->Prop,aT 1 1 (.d (.ptr o.s)) K=K (.d (.ptr (.sl false 4 (dl Cs.s o.cs)))):=fun K=>by simp [Off.s,bD,aT,D.pre,D.nth,D.size]
 cases hd:decide (20000 - o.day < v) with
 | true =>
  have hM:d4 o 2 id a v=none:=by unfold d4; rw [if_neg (by decide),if_pos rfl,if_pos (of_decide_eq_true hd)]
  repeat' (first|(simp only [hk1,hk2,hk3,hk4,hk5,Off.s_noOwn,Off.s_isV,Off.s_size,Off.w,bD,aM,aL,hf0,hf1,hd,↓bG,aD,a7,Int.toNat_natCast,Option.map_some,aJ,aX,↓wA,↓wC,wB,aF,aE,reduceEqDiff,reduceAdd,reduceSub,reduceIte,reduceCtorEq,Nat.reduceBEq,reduceLT,aP])|(refine bO ?_)|(with_reducible refine And.intro ?_ ?_)|(refine aG hO (by simp [bE,bV,Off.s_unown]) rfl ?_)|(refine aG hF (by simp [bE,bV,Off.s_unown]) rfl ?_)|(with_reducible refine aI ?_ ?_; focus (simp only [bQ]; omega))|((first|apply aB|apply aC|apply aA)<;>intro h<;>try simp only [h]))
  all_goals exact rX o hM rfl
 | false =>
  have hM:d4 o 2 id a v=some { o with cs:=eC ⟨id,a,o.day + v,[]⟩ o.cs }:=by unfold d4; rw [if_neg (by decide),if_pos rfl,if_neg (of_decide_eq_false hd)]
  have hG:=eF _ (mE ho hM)
  have hd':=of_decide_eq_false hd
  have hE:=aAa o 2 id a v ho0 (by simp only [bQ]; omega)
  simp only [gJ] at hE
  have hu:(D.st (.cons (.int .i64 o.day) (.cons (.sl true 4 (dl Cs.s (eC ⟨id,a,o.day + v,[]⟩ o.cs))) (.cons (.int .i64 o.kept) (.cons (.int .i64 o.moved) (.cons (.sl true 1 (dl D.str o.led)) .nil)))))).unown=Off.s { o with cs:=eC ⟨id,a,o.day + v,[]⟩ o.cs }:=Off.w_unown { o with cs:=eC ⟨id,a,o.day + v,[]⟩ o.cs }
  repeat' (first|(simp only [hk1,hk2,hk3,hk4,hk5,Off.s_noOwn,Off.s_isV,Off.s_size,Off.w,bD,aM,aL,hf0,hf1,hd,↓bG,aD,a7,Int.toNat_natCast,Option.map_some,aJ,aX,↓wA,↓wC,wB,aF,aE,reduceEqDiff,reduceAdd,reduceSub,reduceIte,reduceCtorEq,Nat.reduceBEq,reduceLT,aP])|(refine bO ?_)|(with_reducible refine And.intro ?_ ?_)|(refine aG hO (by simp [bE,bV,Off.s_unown]) rfl ?_)|(refine aG hF (by simp [bE,bV,Off.s_unown]) rfl ?_)|(with_reducible refine aI ?_ ?_; focus (simp only [bQ]; omega))|(refine aG hE (by simp [bE,bV,Off.s_unown,D.unown]) rfl ?_)|(refine aG hG (congrArg (fun d:D=>some [d]) hu) rfl ?_)|(refine aH hG (congrArg (fun d:D=>some [d]) hu) rfl ?_)|((first|apply aB|apply aC|apply aA)<;>intro h<;>try simp only [h]))
  all_goals exact mW hM rfl rfl
theorem aEn (o:Off) (id a v:Int) (ho:bN o=true) (hs:iG o 4 id a v=true):Fn prog 42 [o.s,gJ 4 id a v] (MkR o 4 id a v):=by
 have hk1:decide ((4:Int)=1)=false:=rfl
 have hk2:decide ((4:Int)=2)=false:=rfl
 have hk3:decide ((4:Int)=3)=false:=rfl
 have hk4:decide ((4:Int)=4)=true:=rfl
 have hk5:decide ((4:Int)=5)=false:=rfl
 have hp:=bT ho
 have ho0:=dK ho
 have hO:=fA o ho0
 have hF:=iA o id ho0
 have hE:=wY o v ho0
 have hd:True:=trivial
 cases hc:pE v o.cs with
 | true =>
  have hM:d4 o 4 id a v=some { o with cs:=o.cs.map (nN v) }:=by unfold d4; rw [if_neg (by decide),if_neg (by decide),if_pos rfl,if_pos hc]
  have hG:=eF _ (mE ho hM)
  have hu:(D.st (.cons (.int .i64 o.day) (.cons (.sl true 4 (dl Cs.s (o.cs.map (nN v)))) (.cons (.int .i64 o.kept) (.cons (.int .i64 o.moved) (.cons (.sl true 1 (dl D.str o.led)) .nil)))))).unown=Off.s { o with cs:=o.cs.map (nN v) }:=Off.w_unown { o with cs:=o.cs.map (nN v) }
  rw [hc] at hE
  refine dL (ps:=[[1,0],[1,0]]) (fn:=f42) (by exact func42) c42 r42 (n:=118) (by rfl) (rv:=[.cell 4 27,.tmp 5]) (by rfl) (by simp) ?_
  unfold m42
  try simp only [wQ]
  simp only [cI,dD]
  simp only [gJ]
  repeat' (first|(simp only [Off.s_noOwn,Off.s_isV,aD,↓wA,↓wC,wB,aF,aE,reduceEqDiff,reduceAdd,reduceSub,reduceIte,reduceCtorEq,Nat.reduceBEq,reduceLT,aP])|((first|apply aB|apply aC|apply aA)<;>intro h<;>try simp only [h]))
  refine aR (dU 0 rfl) ?_
  simp only [aF,aE,Off.s_unown,↓wA,↓wC,wB,aF,aE,reduceEqDiff,reduceAdd,reduceSub,reduceIte,reduceCtorEq,Nat.reduceBEq,reduceLT,aP]
  refine aR (dU 1 rfl) ?_
  simp only [aF,aE,D.unown,↓wA,↓wC,wB,aF,aE,reduceEqDiff,reduceAdd,reduceSub,reduceIte,reduceCtorEq,Nat.reduceBEq,reduceLT,aP]
  have hf0:∀ K:SV->Prop,aT 0 0 (.d (.ptr o.s)) K=K (.d (.ptr (.int .i64 o.day))):=fun K=>by simp [Off.s,bD,aT,D.pre,D.nth,D.size]
  have hf1:∀ K:SV->Prop,aT 1 1 (.d (.ptr o.s)) K=K (.d (.ptr (.sl false 4 (dl Cs.s o.cs)))):=fun K=>by simp [Off.s,bD,aT,D.pre,D.nth,D.size]
  repeat' (first|(simp only [hk1,hk2,hk3,hk4,hk5,Off.s_noOwn,Off.s_isV,Off.s_size,Off.w,bD,aM,aL,hf0,hf1,hd,↓bG,aD,a7,Int.toNat_natCast,Option.map_some,aJ,aX,↓wA,↓wC,wB,aF,aE,reduceEqDiff,reduceAdd,reduceSub,reduceIte,reduceCtorEq,Nat.reduceBEq,reduceLT,aP])|(refine bO ?_)|(with_reducible refine And.intro ?_ ?_)|(refine aG hO (by simp [bE,bV,Off.s_unown]) rfl ?_)|(refine aG hF (by simp [bE,bV,Off.s_unown]) rfl ?_)|(with_reducible refine aI ?_ ?_; focus (simp only [bQ]; omega))|(refine aG hE (by simp [bE,bV,Off.s_unown]) rfl ?_)|(refine aG hG (congrArg (fun d:D=>some [d]) hu) rfl ?_)|(refine aH hG (congrArg (fun d:D=>some [d]) hu) rfl ?_)|((first|apply aB|apply aC|apply aA)<;>intro h<;>try simp only [h]))
  all_goals exact mW hM rfl rfl
 | false =>
  have hM:d4 o 4 id a v=none:=by unfold d4; rw [if_neg (by decide),if_neg (by decide),if_pos rfl,if_neg (by rw [hc]; decide)]
  rw [hc] at hE
  refine dL (ps:=[[1,0],[1,0]]) (fn:=f42) (by exact func42) c42 r42 (n:=118) (by rfl) (rv:=[.cell 4 27,.tmp 5]) (by rfl) (by simp) ?_
  unfold m42
  try simp only [wQ]
  simp only [cI,dD]
  simp only [gJ]
  repeat' (first|(simp only [Off.s_noOwn,Off.s_isV,aD,↓wA,↓wC,wB,aF,aE,reduceEqDiff,reduceAdd,reduceSub,reduceIte,reduceCtorEq,Nat.reduceBEq,reduceLT,aP])|((first|apply aB|apply aC|apply aA)<;>intro h<;>try simp only [h]))
  refine aR (dU 0 rfl) ?_
  simp only [aF,aE,Off.s_unown,↓wA,↓wC,wB,aF,aE,reduceEqDiff,reduceAdd,reduceSub,reduceIte,reduceCtorEq,Nat.reduceBEq,reduceLT,aP]
  refine aR (dU 1 rfl) ?_
  simp only [aF,aE,D.unown,↓wA,↓wC,wB,aF,aE,reduceEqDiff,reduceAdd,reduceSub,reduceIte,reduceCtorEq,Nat.reduceBEq,reduceLT,aP]
  have hf0:∀ K:SV->Prop,aT 0 0 (.d (.ptr o.s)) K=K (.d (.ptr (.int .i64 o.day))):=fun K=>by simp [Off.s,bD,aT,D.pre,D.nth,D.size]
  have hf1:∀ K:SV->Prop,aT 1 1 (.d (.ptr o.s)) K=K (.d (.ptr (.sl false 4 (dl Cs.s o.cs)))):=fun K=>by simp [Off.s,bD,aT,D.pre,D.nth,D.size]
  repeat' (first|(simp only [hk1,hk2,hk3,hk4,hk5,Off.s_noOwn,Off.s_isV,Off.s_size,Off.w,bD,aM,aL,hf0,hf1,hd,↓bG,aD,a7,Int.toNat_natCast,Option.map_some,aJ,aX,↓wA,↓wC,wB,aF,aE,reduceEqDiff,reduceAdd,reduceSub,reduceIte,reduceCtorEq,Nat.reduceBEq,reduceLT,aP])|(refine bO ?_)|(with_reducible refine And.intro ?_ ?_)|(refine aG hO (by simp [bE,bV,Off.s_unown]) rfl ?_)|(refine aG hF (by simp [bE,bV,Off.s_unown]) rfl ?_)|(with_reducible refine aI ?_ ?_; focus (simp only [bQ]; omega))|(refine aG hE (by simp [bE,bV,Off.s_unown]) rfl ?_)|((first|apply aB|apply aC|apply aA)<;>intro h<;>try simp only [h]))
  all_goals exact rX { o with cs:=o.cs.map (nN v) } hM rfl
theorem rZ {o:Off} {id:Int} (h:decide (0<=d9 o.cs id)=true):∃ (i:Nat) (x:Cs),d9 o.cs id=(i:Int)/\o.cs[i]?=some x:=by
 rcases lC o.cs id with ⟨_,hn⟩|⟨i,x,hi,hr,_⟩
 ·rw [hn] at h; cases h
 ·exact ⟨i,x,hi,hr⟩
theorem aEm (o:Off) (id a v:Int) (ho:bN o=true) (hs:iG o 6 id a v=true):Fn prog 42 [o.s,gJ 6 id a v] (MkR o 6 id a v):=by
 have hk1:decide ((6:Int)=1)=false:=rfl
 have hk2:decide ((6:Int)=2)=false:=rfl
 have hk3:decide ((6:Int)=3)=false:=rfl
 have hk4:decide ((6:Int)=4)=false:=rfl
 have hk5:decide ((6:Int)=5)=false:=rfl
 have hp:=bT ho
 have ho0:=dK ho
 have hO:=fA o ho0
 have hF:=iA o id ho0
 have hd:True:=trivial
 obtain ⟨i,x,hi,hr⟩:=rZ (o:=o) (id:=id) (by simp [iG] at hs; exact decide_eq_true hs.1.1)
 have hE:=aDv o i x ho hr
 rw [hi] at hF
 have hM0:d4 o 6 id a v=if bP o x=true then some (fU o i x) else none:=by
  unfold d4
  rw [if_neg (by decide),if_neg (by decide),if_neg (by decide),hi,Int.toNat_natCast,hr]
  simp
 have hwu:=Off.w_unown (fU o i x)
 have hwV:∀ q:Off,q.w.isV=true:=fun _=>rfl
 have hwS:∀ q:Off,q.w.size=5:=fun _=>rfl
 have hwN:=Off.w_noOwn
 have hwB:∀ q:Off,q.w.isStB=true:=fun _=>rfl
 generalize hq:fU o i x=q at hE hM0 hwu
 cases hc:bP o x with
 | true =>
  have hM:d4 o 6 id a v=some q:=by rw [hM0,if_pos hc]
  have hG:=eF _ (mE ho hM)
  rw [hc,Bool.true_and] at hE
  cases hk:bN q with
  | true =>
   rw [hk] at hE hG
   refine dL (ps:=[[1,0],[1,0]]) (fn:=f42) (by exact func42) c42 r42 (n:=118) (by rfl) (rv:=[.cell 4 27,.tmp 5]) (by rfl) (by simp) ?_
   unfold m42
   try simp only [wQ]
   simp only [cI,dD]
   simp only [gJ]
   repeat' (first|(simp only [Off.s_noOwn,Off.s_isV,aD,↓wA,↓wC,wB,aF,aE,reduceEqDiff,reduceAdd,reduceSub,reduceIte,reduceCtorEq,Nat.reduceBEq,reduceLT,aP])|((first|apply aB|apply aC|apply aA)<;>intro h<;>try simp only [h]))
   refine aR (dU 0 rfl) ?_
   simp only [aF,aE,Off.s_unown,↓wA,↓wC,wB,aF,aE,reduceEqDiff,reduceAdd,reduceSub,reduceIte,reduceCtorEq,Nat.reduceBEq,reduceLT,aP]
   refine aR (dU 1 rfl) ?_
   simp only [aF,aE,D.unown,↓wA,↓wC,wB,aF,aE,reduceEqDiff,reduceAdd,reduceSub,reduceIte,reduceCtorEq,Nat.reduceBEq,reduceLT,aP]
   have hf0:∀ K:SV->Prop,aT 0 0 (.d (.ptr o.s)) K=K (.d (.ptr (.int .i64 o.day))):=fun K=>by simp [Off.s,bD,aT,D.pre,D.nth,D.size]
   have hf1:∀ K:SV->Prop,aT 1 1 (.d (.ptr o.s)) K=K (.d (.ptr (.sl false 4 (dl Cs.s o.cs)))):=fun K=>by simp [Off.s,bD,aT,D.pre,D.nth,D.size]
   repeat' (first|(simp only [hwV,hwS,hwN,hwB,hk1,hk2,hk3,hk4,hk5,Off.s_noOwn,Off.s_isV,Off.s_size,aM,aL,hf0,hf1,hd,↓bG,aD,a7,Int.toNat_natCast,Option.map_some,aJ,aX,↓wA,↓wC,wB,aF,aE,reduceEqDiff,reduceAdd,reduceSub,reduceIte,reduceCtorEq,Nat.reduceBEq,reduceLT,aP])|(refine bO ?_)|(with_reducible refine And.intro ?_ ?_)|(refine aG hO (by simp [bE,bV,Off.s_unown]) rfl ?_)|(refine aG hF (by simp [bE,bV,Off.s_unown]) rfl ?_)|(with_reducible refine aI ?_ ?_; focus (simp only [bQ]; omega))|(refine aG hE (by simp [bE,bV,Off.s_unown]) rfl ?_)|(refine aG hG (congrArg (fun d:D=>some [d]) hwu) rfl ?_)|(refine aH hG (congrArg (fun d:D=>some [d]) hwu) rfl ?_)|((first|apply aB|apply aC|apply aA)<;>intro h<;>try simp only [h]))
   all_goals exact nM _ rfl (aQ rfl (aQ rfl (aQ rfl (mW hM rfl hk.symm))))
  | false =>
   rw [hk] at hE hG
   refine dL (ps:=[[1,0],[1,0]]) (fn:=f42) (by exact func42) c42 r42 (n:=118) (by rfl) (rv:=[.cell 4 27,.tmp 5]) (by rfl) (by simp) ?_
   unfold m42
   try simp only [wQ]
   simp only [cI,dD]
   simp only [gJ]
   repeat' (first|(simp only [Off.s_noOwn,Off.s_isV,aD,↓wA,↓wC,wB,aF,aE,reduceEqDiff,reduceAdd,reduceSub,reduceIte,reduceCtorEq,Nat.reduceBEq,reduceLT,aP])|((first|apply aB|apply aC|apply aA)<;>intro h<;>try simp only [h]))
   refine aR (dU 0 rfl) ?_
   simp only [aF,aE,Off.s_unown,↓wA,↓wC,wB,aF,aE,reduceEqDiff,reduceAdd,reduceSub,reduceIte,reduceCtorEq,Nat.reduceBEq,reduceLT,aP]
   refine aR (dU 1 rfl) ?_
   simp only [aF,aE,D.unown,↓wA,↓wC,wB,aF,aE,reduceEqDiff,reduceAdd,reduceSub,reduceIte,reduceCtorEq,Nat.reduceBEq,reduceLT,aP]
   have hf0:∀ K:SV->Prop,aT 0 0 (.d (.ptr o.s)) K=K (.d (.ptr (.int .i64 o.day))):=fun K=>by simp [Off.s,bD,aT,D.pre,D.nth,D.size]
   have hf1:∀ K:SV->Prop,aT 1 1 (.d (.ptr o.s)) K=K (.d (.ptr (.sl false 4 (dl Cs.s o.cs)))):=fun K=>by simp [Off.s,bD,aT,D.pre,D.nth,D.size]
   repeat' (first|(simp only [hwV,hwS,hwN,hwB,hk1,hk2,hk3,hk4,hk5,Off.s_noOwn,Off.s_isV,Off.s_size,aM,aL,hf0,hf1,hd,↓bG,aD,a7,Int.toNat_natCast,Option.map_some,aJ,aX,↓wA,↓wC,wB,aF,aE,reduceEqDiff,reduceAdd,reduceSub,reduceIte,reduceCtorEq,Nat.reduceBEq,reduceLT,aP])|(refine bO ?_)|(with_reducible refine And.intro ?_ ?_)|(refine aG hO (by simp [bE,bV,Off.s_unown]) rfl ?_)|(refine aG hF (by simp [bE,bV,Off.s_unown]) rfl ?_)|(with_reducible refine aI ?_ ?_; focus (simp only [bQ]; omega))|(refine aG hE (by simp [bE,bV,Off.s_unown]) rfl ?_)|((first|apply aB|apply aC|apply aA)<;>intro h<;>try simp only [h]))
   all_goals exact nM _ rfl (aQ rfl (aQ rfl (aQ rfl (mW hM rfl hk.symm))))
 | false =>
  have hM:d4 o 6 id a v=none:=by rw [hM0,if_neg (by rw [hc]; decide)]
  rw [hc,Bool.false_and] at hE
  refine dL (ps:=[[1,0],[1,0]]) (fn:=f42) (by exact func42) c42 r42 (n:=118) (by rfl) (rv:=[.cell 4 27,.tmp 5]) (by rfl) (by simp) ?_
  unfold m42
  try simp only [wQ]
  simp only [cI,dD]
  simp only [gJ]
  repeat' (first|(simp only [Off.s_noOwn,Off.s_isV,aD,↓wA,↓wC,wB,aF,aE,reduceEqDiff,reduceAdd,reduceSub,reduceIte,reduceCtorEq,Nat.reduceBEq,reduceLT,aP])|((first|apply aB|apply aC|apply aA)<;>intro h<;>try simp only [h]))
  refine aR (dU 0 rfl) ?_
  simp only [aF,aE,Off.s_unown,↓wA,↓wC,wB,aF,aE,reduceEqDiff,reduceAdd,reduceSub,reduceIte,reduceCtorEq,Nat.reduceBEq,reduceLT,aP]
  refine aR (dU 1 rfl) ?_
  simp only [aF,aE,D.unown,↓wA,↓wC,wB,aF,aE,reduceEqDiff,reduceAdd,reduceSub,reduceIte,reduceCtorEq,Nat.reduceBEq,reduceLT,aP]
  have hf0:∀ K:SV->Prop,aT 0 0 (.d (.ptr o.s)) K=K (.d (.ptr (.int .i64 o.day))):=fun K=>by simp [Off.s,bD,aT,D.pre,D.nth,D.size]
  have hf1:∀ K:SV->Prop,aT 1 1 (.d (.ptr o.s)) K=K (.d (.ptr (.sl false 4 (dl Cs.s o.cs)))):=fun K=>by simp [Off.s,bD,aT,D.pre,D.nth,D.size]
  repeat' (first|(simp only [hwV,hwS,hwN,hwB,hk1,hk2,hk3,hk4,hk5,Off.s_noOwn,Off.s_isV,Off.s_size,aM,aL,hf0,hf1,hd,↓bG,aD,a7,Int.toNat_natCast,Option.map_some,aJ,aX,↓wA,↓wC,wB,aF,aE,reduceEqDiff,reduceAdd,reduceSub,reduceIte,reduceCtorEq,Nat.reduceBEq,reduceLT,aP])|(refine bO ?_)|(with_reducible refine And.intro ?_ ?_)|(refine aG hO (by simp [bE,bV,Off.s_unown]) rfl ?_)|(refine aG hF (by simp [bE,bV,Off.s_unown]) rfl ?_)|(with_reducible refine aI ?_ ?_; focus (simp only [bQ]; omega))|(refine aG hE (by simp [bE,bV,Off.s_unown]) rfl ?_)|((first|apply aB|apply aC|apply aA)<;>intro h<;>try simp only [h]))
  all_goals exact nM _ rfl (aQ rfl (aQ rfl (aQ rfl (rX q hM rfl))))
theorem aFe (o:Off) (id a v:Int) (ho:bN o=true) (hs:iG o 3 id a v=true):Fn prog 42 [o.s,gJ 3 id a v] (MkR o 3 id a v):=by
 have hk1:decide ((3:Int)=1)=false:=rfl
 have hk2:decide ((3:Int)=2)=false:=rfl
 have hk3:decide ((3:Int)=3)=true:=rfl
 have hk4:decide ((3:Int)=4)=false:=rfl
 have hk5:decide ((3:Int)=5)=false:=rfl
 have hp:=bT ho
 have ho0:=dK ho
 have hO:=fA o ho0
 have hF:=iA o id ho0
 have hd:True:=trivial
 obtain ⟨i,x,hi,hr⟩:=rZ (o:=o) (id:=id) (by simp [iG] at hs; exact decide_eq_true hs.1.1)
 have hxc:=cG (hp.2.2.2.2.2.2.2.2.2 x (List.mem_of_getElem? hr))
 have hH:=aEs x.h v (by omega)
 have hi0:(0:Int)<=(i:Int):=by omega
 rw [hi] at hF
 have hM0:d4 o 3 id a v=if x.h.contains v=true then none else some { o with cs:=o.cs.set i { x with h:=gA v x.h } }:=by
  unfold d4
  rw [if_neg (by decide),if_neg (by decide),if_neg (by decide),hi,Int.toNat_natCast,hr]
  simp
 have hgn:(dl Cs.s o.cs).nth i=some (x.p (.sl false 1 (dl iD x.h))):=by rw [aX,hr]; rfl
 have hgs:∀ (y:D),((dl Cs.s o.cs).setN i y).nth i=some y:=fun y=>by rw [kQ,if_pos rfl,hgn]; rfl
 have hfx:∀ K:SV->Prop,aT 3 3 (.d (.ptr x.s)) K=K (.d (.ptr (.sl false 1 (dl iD x.h)))):=fun K=>aFZ
 cases hc:x.h.contains v with
 | true =>
  rw [hc] at hH
  have hM:d4 o 3 id a v=none:=by rw [hM0,if_pos hc]
  refine dL (ps:=[[1,0],[1,0]]) (fn:=f42) (by exact func42) c42 r42 (n:=118) (by rfl) (rv:=[.cell 4 27,.tmp 5]) (by rfl) (by simp) ?_
  unfold m42
  try simp only [wQ]
  simp only [cI,dD]
  simp only [gJ]
  repeat' (first|(simp only [Off.s_noOwn,Off.s_isV,aD,↓wA,↓wC,wB,aF,aE,reduceEqDiff,reduceAdd,reduceSub,reduceIte,reduceCtorEq,Nat.reduceBEq,reduceLT,aP])|((first|apply aB|apply aC|apply aA)<;>intro h<;>try simp only [h]))
  refine aR (dU 0 rfl) ?_
  simp only [aF,aE,Off.s_unown,↓wA,↓wC,wB,aF,aE,reduceEqDiff,reduceAdd,reduceSub,reduceIte,reduceCtorEq,Nat.reduceBEq,reduceLT,aP]
  refine aR (dU 1 rfl) ?_
  simp only [aF,aE,D.unown,↓wA,↓wC,wB,aF,aE,reduceEqDiff,reduceAdd,reduceSub,reduceIte,reduceCtorEq,Nat.reduceBEq,reduceLT,aP]
  have hf0:∀ K:SV->Prop,aT 0 0 (.d (.ptr o.s)) K=K (.d (.ptr (.int .i64 o.day))):=fun K=>by simp [Off.s,bD,aT,D.pre,D.nth,D.size]
  have hf1:∀ K:SV->Prop,aT 1 1 (.d (.ptr o.s)) K=K (.d (.ptr (.sl false 4 (dl Cs.s o.cs)))):=fun K=>by simp [Off.s,bD,aT,D.pre,D.nth,D.size]
  repeat' (first|(simp only [hk1,hk2,hk3,hk4,hk5,Off.s_noOwn,Off.s_isV,Off.s_size,Off.w,bD,aM,aL,hf0,hf1,hd,↓bG,aD,a7,Int.toNat_natCast,Option.map_some,aJ,aX,hi0,hr,hfx,aS,↓wA,↓wC,wB,aF,aE,reduceEqDiff,reduceAdd,reduceSub,reduceIte,reduceCtorEq,Nat.reduceBEq,reduceLT,aP])|(refine bO ?_)|(with_reducible refine And.intro ?_ ?_)|(refine aG hO (by simp [bE,bV,Off.s_unown]) rfl ?_)|(refine aG hF (by simp [bE,bV,Off.s_unown]) rfl ?_)|(with_reducible refine aI ?_ ?_; focus (simp only [bQ]; omega))|(refine aG (hH) rfl rfl ?_)|(refine aH (hH) rfl rfl ?_)|((first|apply aB|apply aC|apply aA)<;>intro h<;>try simp only [h]))
  all_goals exact rX o hM rfl
 | false =>
  rw [hc] at hH
  have hM:d4 o 3 id a v=some { o with cs:=o.cs.set i { x with h:=gA v x.h } }:=by rw [hM0,if_neg (by rw [hc]; decide)]
  have hG:=eF _ (mE ho hM)
  have hnv:v ∉ x.h:=fun h=>by rw [List.contains_iff_mem.2 h] at hc; cases hc
  have hP:Fn prog 77 [.sl false 1 (dl iD x.h),.int .i64 v] (fun rs=>rs=[.sl false 1 (dl iD (gA v x.h))]):=by
   simpa [D.unown,cH] using eO (aFN x.h v (by omega) hnv)
  have hset:(dl Cs.s o.cs).setN i (x.p (.sl false 1 (dl iD (gA v x.h))))=dl Cs.s (o.cs.set i { x with h:=gA v x.h }):=by
   have e:x.p (.sl false 1 (dl iD (gA v x.h)))=Cs.s { x with h:=gA v x.h }:=rfl
   rw [e,gD]
  have hu:(D.st (.cons (.int .i64 o.day) (.cons (.sl true 4 (dl Cs.s (o.cs.set i { x with h:=gA v x.h }))) (.cons (.int .i64 o.kept) (.cons (.int .i64 o.moved) (.cons (.sl true 1 (dl D.str o.led)) .nil)))))).unown=Off.s { o with cs:=o.cs.set i { x with h:=gA v x.h } }:=Off.w_unown { o with cs:=o.cs.set i { x with h:=gA v x.h } }
  refine dL (ps:=[[1,1,1,0,1,0,1,1,1,1,1,0,1],[1,1,1,1,0],[1,0],[1,0]]) (fn:=f42) (by exact func42) c42 r42 (n:=118) (by rfl) (rv:=[.cell 4 27,.tmp 5]) (by rfl) (by simp) ?_
  unfold m42
  try simp only [wQ]
  simp only [cI,dD]
  simp only [gJ]
  repeat' (first|(simp only [Off.s_noOwn,Off.s_isV,aD,↓wA,↓wC,wB,aF,aE,reduceEqDiff,reduceAdd,reduceSub,reduceIte,reduceCtorEq,Nat.reduceBEq,reduceLT,aP])|((first|apply aB|apply aC|apply aA)<;>intro h<;>try simp only [h]))
  refine aR (dU 0 rfl) ?_
  simp only [aF,aE,Off.s_unown,↓wA,↓wC,wB,aF,aE,reduceEqDiff,reduceAdd,reduceSub,reduceIte,reduceCtorEq,Nat.reduceBEq,reduceLT,aP]
  refine aR (dU 1 rfl) ?_
  simp only [aF,aE,D.unown,↓wA,↓wC,wB,aF,aE,reduceEqDiff,reduceAdd,reduceSub,reduceIte,reduceCtorEq,Nat.reduceBEq,reduceLT,aP]
  have hf0:∀ K:SV->Prop,aT 0 0 (.d (.ptr o.s)) K=K (.d (.ptr (.int .i64 o.day))):=fun K=>by simp [Off.s,bD,aT,D.pre,D.nth,D.size]
  have hf1:∀ K:SV->Prop,aT 1 1 (.d (.ptr o.s)) K=K (.d (.ptr (.sl false 4 (dl Cs.s o.cs)))):=fun K=>by simp [Off.s,bD,aT,D.pre,D.nth,D.size]
  repeat' (first|(simp only [hk1,hk2,hk3,hk4,hk5,Off.s_noOwn,Off.s_isV,Off.s_size,Off.w,bD,aM,aL,hf0,hf1,hd,↓bG,aD,a7,Int.toNat_natCast,Option.map_some,aJ,aX,hi0,hr,hfx,aS,↓wA,↓wC,wB,aF,aE,reduceEqDiff,reduceAdd,reduceSub,reduceIte,reduceCtorEq,Nat.reduceBEq,reduceLT,aP])|(refine bO ?_)|(with_reducible refine And.intro ?_ ?_)|(refine aG hO (by simp [bE,bV,Off.s_unown]) rfl ?_)|(refine aG hF (by simp [bE,bV,Off.s_unown]) rfl ?_)|(with_reducible refine aI ?_ ?_; focus (simp only [bQ]; omega))|(refine aG (hH) rfl rfl ?_)|(refine aH (hH) rfl rfl ?_)|((first|apply aB|apply aC|apply aA)<;>intro h<;>try simp only [h]))
  refine cB _ (cU 4 none [1] (es:=4) (xs:=dl Cs.s o.cs) rfl rfl) fun v1=>?_
  simp only [bR,↓wA,↓wC,wB,aF,aE,reduceEqDiff,reduceAdd,reduceSub,reduceIte,reduceCtorEq,Nat.reduceBEq,reduceLT,aP]
  repeat' (first|(simp only [hk1,hk2,hk3,hk4,hk5,Off.s_noOwn,Off.s_isV,Off.s_size,Off.w,bD,aM,aL,hf0,hf1,hd,↓bG,aD,a7,Int.toNat_natCast,Option.map_some,aJ,hi0,hgn,hgs,aS,dF,cA,b9,hset,↓wA,↓wC,wB,aF,aE,reduceEqDiff,reduceAdd,reduceSub,reduceIte,reduceCtorEq,Nat.reduceBEq,reduceLT,aP])|(refine bO ?_)|(with_reducible refine And.intro ?_ ?_)|(refine aG hO (by simp [bE,bV,Off.s_unown]) rfl ?_)|(refine aG hF (by simp [bE,bV,Off.s_unown]) rfl ?_)|(with_reducible refine aI ?_ ?_; focus (simp only [bQ]; omega))|(refine aG (hP) rfl rfl ?_)|(refine aH (hP) rfl rfl ?_)|((first|apply aB|apply aC|apply aA)<;>intro h<;>try simp only [h]))
  refine aR (fV 4 6 5 none [1] rfl rfl rfl rfl (by decide) rfl) ?_
  simp only [bR,↓wA,↓wC,wB,aF,aE,reduceEqDiff,reduceAdd,reduceSub,reduceIte,reduceCtorEq,Nat.reduceBEq,reduceLT,aP]
  repeat' (first|(simp only [hk1,hk2,hk3,hk4,hk5,Off.s_noOwn,Off.s_isV,Off.s_size,Off.w,bD,aM,aL,hf0,hf1,hd,↓bG,aD,a7,Int.toNat_natCast,Option.map_some,aJ,↓wA,↓wC,wB,aF,aE,reduceEqDiff,reduceAdd,reduceSub,reduceIte,reduceCtorEq,Nat.reduceBEq,reduceLT,aP])|(refine bO ?_)|(with_reducible refine And.intro ?_ ?_)|(refine aG hO (by simp [bE,bV,Off.s_unown]) rfl ?_)|(refine aG hF (by simp [bE,bV,Off.s_unown]) rfl ?_)|(with_reducible refine aI ?_ ?_; focus (simp only [bQ]; omega))|(refine aG hG (congrArg (fun d:D=>some [d]) hu) rfl ?_)|(refine aH hG (congrArg (fun d:D=>some [d]) hu) rfl ?_)|((first|apply aB|apply aC|apply aA)<;>intro h<;>try simp only [h]))
  all_goals exact mW hM rfl rfl
theorem aFv (o:Off) (id a v:Int) (ho:bN o=true) (hs:iG o 5 id a v=true):Fn prog 42 [o.s,gJ 5 id a v] (MkR o 5 id a v):=by
 have hk1:decide ((5:Int)=1)=false:=rfl
 have hk2:decide ((5:Int)=2)=false:=rfl
 have hk3:decide ((5:Int)=3)=false:=rfl
 have hk4:decide ((5:Int)=4)=false:=rfl
 have hk5:decide ((5:Int)=5)=true:=rfl
 have hp:=bT ho
 have ho0:=dK ho
 have hO:=fA o ho0
 have hF:=iA o id ho0
 have hv:1<=v:=by simp [iG] at hs; exact hs.2
 obtain ⟨i,x,hi,hr⟩:=rZ (o:=o) (id:=id) (by simp [iG] at hs; exact decide_eq_true hs.1.1)
 have hxc:=cG (hp.2.2.2.2.2.2.2.2.2 x (List.mem_of_getElem? hr))
 have hi0:(0:Int)<=(i:Int):=by omega
 rw [hi] at hF
 have hM0:d4 o 5 id a v=if v > 20000 - x.d then none else some { o with cs:=o.cs.set i { x with d:=x.d + v } }:=by
  unfold d4
  rw [if_neg (by decide),if_neg (by decide),if_neg (by decide),hi,Int.toNat_natCast,hr]
  simp
 have hgn:(dl Cs.s o.cs).nth i=some (x.p (.sl false 1 (dl iD x.h))):=by rw [aX,hr]; rfl
 have hgs:∀ (y:D),((dl Cs.s o.cs).setN i y).nth i=some y:=fun y=>by rw [kQ,if_pos rfl,hgn]; rfl
 have hfx:∀ K:SV->Prop,aT 2 2 (.d (.ptr x.s)) K=K (.d (.ptr (.int .i64 x.d))):=fun K=>aBr
 have hfx':∀ K:SV->Prop,aT 2 2 (.d (.ptr (x.p (.sl false 1 (dl iD x.h))))) K=K (.d (.ptr (.int .i64 x.d))):=fun K=>aBr
 cases hd:decide (20000 - x.d < v) with
 | true =>
  have hM:d4 o 5 id a v=none:=by rw [hM0,if_pos (of_decide_eq_true hd)]
  refine dL (ps:=[[1,0],[1,0]]) (fn:=f42) (by exact func42) c42 r42 (n:=118) (by rfl) (rv:=[.cell 4 27,.tmp 5]) (by rfl) (by simp) ?_
  unfold m42
  try simp only [wQ]
  simp only [cI,dD]
  simp only [gJ]
  repeat' (first|(simp only [Off.s_noOwn,Off.s_isV,aD,↓wA,↓wC,wB,aF,aE,reduceEqDiff,reduceAdd,reduceSub,reduceIte,reduceCtorEq,Nat.reduceBEq,reduceLT,aP])|((first|apply aB|apply aC|apply aA)<;>intro h<;>try simp only [h]))
  refine aR (dU 0 rfl) ?_
  simp only [aF,aE,Off.s_unown,↓wA,↓wC,wB,aF,aE,reduceEqDiff,reduceAdd,reduceSub,reduceIte,reduceCtorEq,Nat.reduceBEq,reduceLT,aP]
  refine aR (dU 1 rfl) ?_
  simp only [aF,aE,D.unown,↓wA,↓wC,wB,aF,aE,reduceEqDiff,reduceAdd,reduceSub,reduceIte,reduceCtorEq,Nat.reduceBEq,reduceLT,aP]
  have hf0:∀ K:SV->Prop,aT 0 0 (.d (.ptr o.s)) K=K (.d (.ptr (.int .i64 o.day))):=fun K=>by simp [Off.s,bD,aT,D.pre,D.nth,D.size]
  have hf1:∀ K:SV->Prop,aT 1 1 (.d (.ptr o.s)) K=K (.d (.ptr (.sl false 4 (dl Cs.s o.cs)))):=fun K=>by simp [Off.s,bD,aT,D.pre,D.nth,D.size]
  repeat' (first|(simp only [hk1,hk2,hk3,hk4,hk5,Off.s_noOwn,Off.s_isV,Off.s_size,Off.w,bD,aM,aL,hf0,hf1,hd,↓bG,aD,a7,Int.toNat_natCast,Option.map_some,aJ,aX,hi0,hr,hfx,aS,↓wA,↓wC,wB,aF,aE,reduceEqDiff,reduceAdd,reduceSub,reduceIte,reduceCtorEq,Nat.reduceBEq,reduceLT,aP])|(refine bO ?_)|(with_reducible refine And.intro ?_ ?_)|(refine aG hO (by simp [bE,bV,Off.s_unown]) rfl ?_)|(refine aG hF (by simp [bE,bV,Off.s_unown]) rfl ?_)|(with_reducible refine aI ?_ ?_; focus (simp only [bQ]; omega))|((first|apply aB|apply aC|apply aA)<;>intro h<;>try simp only [h]))
  all_goals exact rX o hM rfl
 | false =>
  have hd':=of_decide_eq_false hd
  have hM:d4 o 5 id a v=some { o with cs:=o.cs.set i { x with d:=x.d + v } }:=by rw [hM0,if_neg (of_decide_eq_false hd)]
  have hG:=eF _ (mE ho hM)
  have hset:(dl Cs.s o.cs).setN i (Cs.p { x with d:=x.d + v } (.sl false 1 (dl iD x.h)))=dl Cs.s (o.cs.set i { x with d:=x.d + v }):=by
   have e:Cs.p { x with d:=x.d + v } (.sl false 1 (dl iD x.h))=Cs.s { x with d:=x.d + v }:=rfl
   rw [e,gD]
  have hu:(D.st (.cons (.int .i64 o.day) (.cons (.sl true 4 (dl Cs.s (o.cs.set i { x with d:=x.d + v }))) (.cons (.int .i64 o.kept) (.cons (.int .i64 o.moved) (.cons (.sl true 1 (dl D.str o.led)) .nil)))))).unown=Off.s { o with cs:=o.cs.set i { x with d:=x.d + v } }:=Off.w_unown { o with cs:=o.cs.set i { x with d:=x.d + v } }
  refine dL (ps:=[[1,1,1,0,1,0,1,1,1,1,1,1,1,1,1,0,1],[1,1,1,1,0],[1,0],[1,0]]) (fn:=f42) (by exact func42) c42 r42 (n:=118) (by rfl) (rv:=[.cell 4 27,.tmp 5]) (by rfl) (by simp) ?_
  unfold m42
  try simp only [wQ]
  simp only [cI,dD]
  simp only [gJ]
  repeat' (first|(simp only [Off.s_noOwn,Off.s_isV,aD,↓wA,↓wC,wB,aF,aE,reduceEqDiff,reduceAdd,reduceSub,reduceIte,reduceCtorEq,Nat.reduceBEq,reduceLT,aP])|((first|apply aB|apply aC|apply aA)<;>intro h<;>try simp only [h]))
  refine aR (dU 0 rfl) ?_
  simp only [aF,aE,Off.s_unown,↓wA,↓wC,wB,aF,aE,reduceEqDiff,reduceAdd,reduceSub,reduceIte,reduceCtorEq,Nat.reduceBEq,reduceLT,aP]
  refine aR (dU 1 rfl) ?_
  simp only [aF,aE,D.unown,↓wA,↓wC,wB,aF,aE,reduceEqDiff,reduceAdd,reduceSub,reduceIte,reduceCtorEq,Nat.reduceBEq,reduceLT,aP]
  have hf0:∀ K:SV->Prop,aT 0 0 (.d (.ptr o.s)) K=K (.d (.ptr (.int .i64 o.day))):=fun K=>by simp [Off.s,bD,aT,D.pre,D.nth,D.size]
  have hf1:∀ K:SV->Prop,aT 1 1 (.d (.ptr o.s)) K=K (.d (.ptr (.sl false 4 (dl Cs.s o.cs)))):=fun K=>by simp [Off.s,bD,aT,D.pre,D.nth,D.size]
  repeat' (first|(simp only [hk1,hk2,hk3,hk4,hk5,Off.s_noOwn,Off.s_isV,Off.s_size,Off.w,bD,aM,aL,hf0,hf1,hd,↓bG,aD,a7,Int.toNat_natCast,Option.map_some,aJ,aX,hi0,hr,hfx,aS,↓wA,↓wC,wB,aF,aE,reduceEqDiff,reduceAdd,reduceSub,reduceIte,reduceCtorEq,Nat.reduceBEq,reduceLT,aP])|(refine bO ?_)|(with_reducible refine And.intro ?_ ?_)|(refine aG hO (by simp [bE,bV,Off.s_unown]) rfl ?_)|(refine aG hF (by simp [bE,bV,Off.s_unown]) rfl ?_)|(with_reducible refine aI ?_ ?_; focus (simp only [bQ]; omega))|((first|apply aB|apply aC|apply aA)<;>intro h<;>try simp only [h]))
  refine cB _ (cU 4 none [1] (es:=4) (xs:=dl Cs.s o.cs) rfl rfl) fun v1=>?_
  simp only [bR,↓wA,↓wC,wB,aF,aE,reduceEqDiff,reduceAdd,reduceSub,reduceIte,reduceCtorEq,Nat.reduceBEq,reduceLT,aP]
  repeat' (first|(simp only [hk1,hk2,hk3,hk4,hk5,Off.s_noOwn,Off.s_isV,Off.s_size,Off.w,bD,aM,aL,hf0,hf1,hd,↓bG,aD,a7,Int.toNat_natCast,Option.map_some,aJ,hi0,hr,hfx,hfx',hgn,hgs,aS,gS,gU,gW,hset,↓wA,↓wC,wB,aF,aE,reduceEqDiff,reduceAdd,reduceSub,reduceIte,reduceCtorEq,Nat.reduceBEq,reduceLT,aP])|(refine bO ?_)|(with_reducible refine And.intro ?_ ?_)|(refine aG hO (by simp [bE,bV,Off.s_unown]) rfl ?_)|(refine aG hF (by simp [bE,bV,Off.s_unown]) rfl ?_)|(with_reducible refine aI ?_ ?_; focus (simp only [bQ]; omega))|((first|apply aB|apply aC|apply aA)<;>intro h<;>try simp only [h]))
  refine aR (fV 4 6 5 none [1] rfl rfl rfl rfl (by decide) rfl) ?_
  simp only [bR,↓wA,↓wC,wB,aF,aE,reduceEqDiff,reduceAdd,reduceSub,reduceIte,reduceCtorEq,Nat.reduceBEq,reduceLT,aP]
  repeat' (first|(simp only [hk1,hk2,hk3,hk4,hk5,Off.s_noOwn,Off.s_isV,Off.s_size,Off.w,bD,aM,aL,hf0,hf1,hd,↓bG,aD,a7,Int.toNat_natCast,Option.map_some,aJ,↓wA,↓wC,wB,aF,aE,reduceEqDiff,reduceAdd,reduceSub,reduceIte,reduceCtorEq,Nat.reduceBEq,reduceLT,aP])|(refine bO ?_)|(with_reducible refine And.intro ?_ ?_)|(refine aG hO (by simp [bE,bV,Off.s_unown]) rfl ?_)|(refine aG hF (by simp [bE,bV,Off.s_unown]) rfl ?_)|(with_reducible refine aI ?_ ?_; focus (simp only [bQ]; omega))|(refine aG hG (congrArg (fun d:D=>some [d]) hu) rfl ?_)|(refine aH hG (congrArg (fun d:D=>some [d]) hu) rfl ?_)|((first|apply aB|apply aC|apply aA)<;>intro h<;>try simp only [h]))
  all_goals exact mW hM rfl rfl
theorem t8 (o:Off) (k id a v:Int) (ho:bN o=true) (hs:iG o k id a v=true):Fn prog 42 [o.s,gJ k id a v] (MkR o k id a v):=by
 by_cases h1:k=1
 ·subst h1; exact aFW o id a v ho hs
 by_cases h2:k=2
 ·subst h2; exact aE5 o id a v ho hs
 by_cases h3:k=3
 ·subst h3; exact aFe o id a v ho hs
 by_cases h4:k=4
 ·subst h4; exact aEn o id a v ho hs
 by_cases h5:k=5
 ·subst h5; exact aFv o id a v ho hs
 have h6:k=6:=by
  unfold iG at hs
  rw [if_neg h1,if_neg h2,if_neg h3,if_neg h4,if_neg h5] at hs
  simp only [Bool.and_eq_true,decide_eq_true_eq] at hs
  exact hs.1.1.1
 subst h6; exact aEm o id a v ho hs
end Go.Pe.Tryz
set_option maxRecDepth 100000
set_option maxHeartbeats 4000000
set_option linter.all false
namespace Go.Pe.Tryz
open Nat (reduceEqDiff reduceAdd reduceSub reduceLT)
open Go.Proofs.Tryz
theorem vQ:rY.ok0:=⟨⟨by decide,fun x hx=>by cases hx⟩,by decide,fun s hs=>by cases hs⟩
def fQ (o:Off) (k id a v:Int):Off:=(d6 o k id a v).getD rY
def fP (o:Off) (k id a v:Int):Bool:=(d6 o k id a v).isSome
theorem aDR (o:Off) (k id a v:Int):(fQ o k id a v).ok0:=by
 unfold fQ
 cases h:d6 o k id a v with
 | none=>exact vQ
 | some q=>exact dK (n6 h)
theorem zA (o:Off) (k id a v:Int) (ho:o.ok0):Fn prog 7 [o.s,gJ k id a v] (fun rs=>rs=[(fQ o k id a v).o,.bool (fP o k id a v)]):=by
 have h:=sP o k id a v ho
 unfold fQ fP
 cases hq:d6 o k id a v with
 | none=>rw [hq] at h; exact h
 | some q=>rw [hq] at h; exact h
theorem mT (o:Off) (k id a v:Int) (ho:o.ok0):Fn prog 8 [o.s,gJ k id a v] (fun rs=>rs=[(fQ o k id a v).w,.bool (fP o k id a v)]):=by
 have hG:=eF o ho
 have hS:=vP o k id a v ho
 have hE:=aAO o k id a v
 cases hv:bN o with
 | false =>
  have hR:d6 o k id a v=none:=by rw [<- hE]; unfold vB; rw [hv]; rfl
  rw [hv] at hG
  have hX:fQ o k id a v=rY:=by unfold fQ; rw [hR]; rfl
  have hY:fP o k id a v=false:=by unfold fP; rw [hR]; rfl
  rw [hX,hY]
  refine a8 (fn:=f8) (by exact func8) c8 r8 (n:=28) (by rfl) (rv:=[.cell 4 27,.tmp 5]) (by rfl) (by simp) ?_
  unfold m8
  try simp only [wQ]
  simp only [gJ]
  repeat' (first|(simp only [Off.s_noOwn,Off.s_isV,Off.s_size,↓bG,aD,↓wA,↓wC,wB,aF,aE,reduceEqDiff,reduceAdd,reduceSub,reduceIte,reduceCtorEq,Nat.reduceBEq,reduceLT,aP])|(refine aG hG (by simp [bE,bV,Off.s_unown]) rfl ?_)|((first|apply aB|apply aC|apply aA)<;>intro h<;>try simp only [h]))
  all_goals rfl
 | true =>
  rw [hv] at hG
  cases hb:iG o k id a v with
  | false =>
   have hR:d6 o k id a v=none:=by rw [<- hE]; unfold vB; rw [hv,hb]; rfl
   rw [hb] at hS
   have hX:fQ o k id a v=rY:=by unfold fQ; rw [hR]; rfl
   have hY:fP o k id a v=false:=by unfold fP; rw [hR]; rfl
   rw [hX,hY]
   refine a8 (fn:=f8) (by exact func8) c8 r8 (n:=28) (by rfl) (rv:=[.cell 4 27,.tmp 5]) (by rfl) (by simp) ?_
   unfold m8
   try simp only [wQ]
   simp only [gJ] at hS ⊢
   repeat' (first|(simp only [Off.s_noOwn,Off.s_isV,Off.s_size,↓bG,aD,↓wA,↓wC,wB,aF,aE,reduceEqDiff,reduceAdd,reduceSub,reduceIte,reduceCtorEq,Nat.reduceBEq,reduceLT,aP])|(refine aG hG (by simp [bE,bV,Off.s_unown]) rfl ?_)|(refine aG hS (by simp [bE,bV,Off.s_unown]) rfl ?_)|((first|apply aB|apply aC|apply aA)<;>intro h<;>try simp only [h]))
   all_goals rfl
  | true =>
   have hR:d6 o k id a v=nL o k id a v:=by rw [<- hE]; unfold vB; rw [hv,hb]; rfl
   rw [hb] at hS
   have hM:=t8 o k id a v hv hb
   refine a8 (fn:=f8) (by exact func8) c8 r8 (n:=28) (by rfl) (rv:=[.cell 4 27,.tmp 5]) (by rfl) (by simp) ?_
   unfold m8
   try simp only [wQ]
   simp only [gJ] at hS hM ⊢
   repeat' (first|(simp only [Off.s_noOwn,Off.s_isV,Off.s_size,↓bG,aD,↓wA,↓wC,wB,aF,aE,reduceEqDiff,reduceAdd,reduceSub,reduceIte,reduceCtorEq,Nat.reduceBEq,reduceLT,aP])|(refine aG hG (by simp [bE,bV,Off.s_unown]) rfl ?_)|(refine aG hS (by simp [bE,bV,Off.s_unown]) rfl ?_)|((first|apply aB|apply aC|apply aA)<;>intro h<;>try simp only [h]))
   refine nT hM (by simp [bE,bV,Off.s_unown]) fun rs h=>?_
   obtain ⟨q,rfl,hq⟩:=h
   have hwV:q.w.isV=true:=rfl
   have hwS:q.w.size=5:=rfl
   refine ⟨.inl rfl,?_⟩
   unfold fQ fP
   rw [hR]
   cases hm:nL o k id a v with
   | none =>
    repeat' (first|(simp only [Off.w_noOwn,hwV,hwS,aD,Option.isSome_none,↓wA,↓wC,wB,aF,aE,reduceEqDiff,reduceAdd,reduceSub,reduceIte,reduceCtorEq,Nat.reduceBEq,reduceLT,aP])|((first|apply aB|apply aC|apply aA)<;>intro h<;>try simp only [h]))
    all_goals rfl
   | some q' =>
    obtain rfl:=hq q' hm
    repeat' (first|(simp only [Off.w_noOwn,hwV,hwS,aD,Option.isSome_some,↓wA,↓wC,wB,aF,aE,reduceEqDiff,reduceAdd,reduceSub,reduceIte,reduceCtorEq,Nat.reduceBEq,reduceLT,aP])|((first|apply aB|apply aC|apply aA)<;>intro h<;>try simp only [h]))
    all_goals exact aQ rfl (nM _ rfl (aQ rfl (aQ rfl (aQ rfl rfl))))
theorem rG (o:Off) (k id a v:Int) (ho:o.ok0):Fn prog 8 [o.s,gJ k id a v] (fun rs=>rs=[(fQ o k id a v).s,.bool (fP o k id a v)]):=by
 simpa [D.unown,Off.w_unown] using eO (mT o k id a v ho)
end Go.Pe.Tryz
set_option maxRecDepth 100000
set_option maxHeartbeats 4000000
set_option linter.all false
namespace Go.Pe.Tryz
open Nat (reduceEqDiff reduceAdd reduceSub reduceLT)
open Go.Proofs.Tryz
end Go.Pe.Tryz
set_option maxRecDepth 100000
set_option maxHeartbeats 4000000
set_option linter.all false
namespace Go.Pe.Tryz
open Nat (reduceEqDiff reduceAdd reduceSub reduceLT)
open Go.Proofs.Tryz
def uW:Option (Off×Int)->List D
 | some p=>[p.1.s,.int .i64 p.2,.bool true]
 | none=>[rY.w,.int .i64 0,.bool false]
theorem aBP (o:Off) (ss:List Stp) (ho:o.ok0) (hl:ss.length<=1048576):Fn prog 17 [o.s,.sl false 4 (dl Stp.d ss)] (fun rs=>rs=uW (lM o ss)):=by
 have hV:=eF o ho
 cases hv:bN o with
 | false =>
  have hR:lM o ss=none:=by unfold lM; rw [hv]; rfl
  rw [hR]
  rw [hv] at hV
  refine a8 (fn:=f17) (by exact func17) c17 r17 (n:=51) (by rfl) (rv:=[.cell 4 27,.tmp 5,.tmp 6]) (by rfl) (by simp) ?_
  unfold m17
  try simp only [wQ]
  repeat' (first|(simp only [Off.s_noOwn,Off.s_isV,↓bG,eT,aD,↓wA,↓wC,wB,aF,aE,reduceEqDiff,reduceAdd,reduceSub,reduceIte,reduceCtorEq,Nat.reduceBEq,reduceLT,aP])|(refine aG hV (by simp [bE,bV,Off.s_unown]) rfl ?_)|((first|apply aB|apply aC|apply aA)<;>intro h<;>try simp only [h]))
  all_goals rfl
 | true =>
  rw [hv] at hV
  cases hn:decide ((40:Int) < ss.length) with
  | true =>
   have hn':=of_decide_eq_true hn
   have hR:lM o ss=none:=by unfold lM; rw [hv,decide_eq_false (show ¬ ss.length<=40 by omega)]; rfl
   rw [hR]
   refine a8 (fn:=f17) (by exact func17) c17 r17 (n:=51) (by rfl) (rv:=[.cell 4 27,.tmp 5,.tmp 6]) (by rfl) (by simp) ?_
   unfold m17
   try simp only [wQ]
   repeat' (first|(simp only [Off.s_noOwn,Off.s_isV,↓bG,eT,aJ,hn,aD,↓wA,↓wC,wB,aF,aE,reduceEqDiff,reduceAdd,reduceSub,reduceIte,reduceCtorEq,Nat.reduceBEq,reduceLT,aP])|(refine aG hV (by simp [bE,bV,Off.s_unown]) rfl ?_)|((first|apply aB|apply aC|apply aA)<;>intro h<;>try simp only [h]))
   all_goals rfl
  | false =>
   have hn':=of_decide_eq_false hn
   have hR:lM o ss=some (iI o ss ss.length):=by unfold lM; rw [hv,decide_eq_true (show ss.length<=40 by omega)]; rfl
   rw [hR]
   have hO:=fA o ho
   have hwV:∀ q:Off,q.w.isV=true:=fun _=>rfl
   have hwS:∀ q:Off,q.w.size=5:=fun _=>rfl
   have hwB:∀ q:Off,q.w.isStB=true:=fun _=>rfl
   have hsB:∀ q:Off,q.s.isStB=true:=fun _=>rfl
   refine dL (ps:=[[1,0,0]]) (fn:=f17) (by exact func17) c17 r17 (n:=51) (by rfl) (rv:=[.cell 4 27,.tmp 5,.tmp 6]) (by rfl) (by simp) ?_
   unfold m17
   try simp only [wQ]
   simp only [cI,dD]
   repeat' (first|(simp only [Off.s_noOwn,Off.s_isV,aD,↓wA,↓wC,wB,aF,aE,reduceEqDiff,reduceAdd,reduceSub,reduceIte,reduceCtorEq,Nat.reduceBEq,reduceLT,aP])|((first|apply aB|apply aC|apply aA)<;>intro h<;>try simp only [h]))
   refine aR (dU 0 rfl) ?_
   simp only [aF,aE,Off.s_unown,↓wA,↓wC,wB,aF,aE,reduceEqDiff,reduceAdd,reduceSub,reduceIte,reduceCtorEq,Nat.reduceBEq,reduceLT,aP]
   repeat' (first|(simp only [Off.s_noOwn,Off.s_isV,Off.s_size,Off.w_noOwn,hwV,hwS,↓bG,eT,aJ,hn,aD,↓wA,↓wC,wB,aF,aE,reduceEqDiff,reduceAdd,reduceSub,reduceIte,reduceCtorEq,Nat.reduceBEq,reduceLT,aP])|(refine aG hV (by simp [bE,bV,Off.s_unown]) rfl ?_)|(refine aG hO (by simp [bE,bV,Off.s_unown]) rfl ?_)|((first|apply aB|apply aC|apply aA)<;>intro h<;>try simp only [h]))
   refine bL ss.length (fun i:Nat=>⟨[(1,.d (.sl false 4 (dl Stp.d ss))),(4,.ptr 1 0 []),(7,.ptr 3 0 []),(8,.d (.int .i64 (iI o ss i).2)),(9,.d (.int .i64 i))],[.dead,.box zO,.dead,.box (iI o ss i).1.s]⟩) (fun _=>True) ?_ trivial ?_ ?_
   ·exact (freeze 3 none [] (x:=o.w) (ob':=.box o.s) rfl rfl (by rw [Off.w_unown]; rfl)).trans (aN _ rfl ⟨⟨rfl,rfl⟩,⟨rfl,rfl⟩,⟨rfl,rfl⟩,⟨rfl,rfl⟩,⟨rfl,rfl⟩,trivial⟩)
   ·intro i hlt _ hd h0
    obtain ⟨s,hr⟩:=bM hlt
    have hk:=qM (ss:=ss) hv i (by omega)
    have hS:=vP (iI o ss i).1 s.k s.i s.a s.v (dK hk.1)
    have hN:=o7 (o:=o) hr
    have hE:=aAO (iI o ss i).1 s.k s.i s.a s.v
    have hM:=t8 (iI o ss i).1 s.k s.i s.a s.v hk.1
    generalize hqe:iI o ss i=qn at hk hS hN hE hM ⊢
    cases hb:iG qn.1 s.k s.i s.a s.v with
    | false =>
     have hR:d6 qn.1 s.k s.i s.a s.v=none:=by rw [<- hE]; unfold vB; rw [hb,Bool.and_false]; rfl
     have e:rE qn s=qn:=by unfold rE; rw [hR]
     rw [e] at hN
     rw [hb] at hS
     repeat' (first|(simp only [aJ,hd,h0,hr,aX,Int.toNat_natCast,Option.map_some,Stp.d,rW,kK,rA,oP,Off.s_isV,Off.s_size,Off.s_noOwn,hsB,↓bG,aD,↓wA,↓wC,wB,aF,aE,reduceEqDiff,reduceAdd,reduceSub,reduceIte,reduceCtorEq,Nat.reduceBEq,reduceLT,aP])|(refine aH hS (by simp [bE,bV,Off.s_unown]) rfl ?_)|(refine aI (by simp only [bQ]; omega) ?_)|((first|apply aB|apply aC|apply aA)<;>intro h<;>try simp only [h]))
     refine ⟨i + 1,?_,by omega,by omega⟩
     rw [hN]
     exact (aN _ rfl ⟨⟨rfl,rfl⟩,⟨rfl,rfl⟩,⟨rfl,rfl⟩,⟨rfl,rfl⟩,⟨rfl,rfl⟩,trivial⟩)
    | true =>
     have hM:=hM hb
     have hR:d6 qn.1 s.k s.i s.a s.v=nL qn.1 s.k s.i s.a s.v:=by rw [<- hE]; unfold vB; rw [hb,hk.1]; rfl
     rw [hb] at hS
     cases hq:nL qn.1 s.k s.i s.a s.v with
     | none =>
      have e:rE qn s=qn:=by unfold rE; rw [hR,hq]
      rw [e] at hN
      have hM':Fn prog 42 [qn.1.s,gJ s.k s.i s.a s.v] (fun rs=>∃ q:Off,rs=[q.w,.bool false]):=aCQ hM fun rs h=>by
       obtain ⟨q,h1,_⟩:=h
       rw [hq] at h1
       exact ⟨q,h1⟩
      repeat' (first|(simp only [aJ,hd,h0,hr,aX,Int.toNat_natCast,Option.map_some,Stp.d,rW,kK,rA,oP,Off.s_isV,Off.s_size,Off.s_noOwn,hsB,hwV,hwS,hwB,Off.w_noOwn,↓bG,aD,↓wA,↓wC,wB,aF,aE,reduceEqDiff,reduceAdd,reduceSub,reduceIte,reduceCtorEq,Nat.reduceBEq,reduceLT,aP])|(refine bO ?_)|(with_reducible refine And.intro ?_ ?_)|(refine aH hS (by simp [bE,bV,Off.s_unown]) rfl ?_)|(refine nT hM' (by simp [bE,bV,Off.s_unown]) (fun rs h=>?_); obtain ⟨q',rfl⟩:=h; refine ⟨.inl rfl,?_⟩)|(refine aI (by simp only [bQ]; omega) ?_)|((first|apply aB|apply aC|apply aA)<;>intro h<;>try simp only [h]))
      all_goals
       refine ⟨i + 1,?_,by omega,by omega⟩
       rw [hN]
       exact (aN _ rfl ⟨⟨rfl,rfl⟩,⟨rfl,rfl⟩,⟨rfl,rfl⟩,⟨rfl,rfl⟩,⟨rfl,rfl⟩,trivial⟩)
     | some p =>
      have e:rE qn s=(p,qn.2 + 1):=by unfold rE; rw [hR,hq]
      rw [e] at hN
      have hM':Fn prog 42 [qn.1.s,gJ s.k s.i s.a s.v] (fun rs=>rs=[p.w,.bool true]):=aCQ hM fun rs h=>by
       obtain ⟨q,h1,h2⟩:=h
       rw [hq] at h1
       rw [h1,h2 p hq]
       rfl
      repeat' (first|(simp only [aJ,hd,h0,hr,aX,Int.toNat_natCast,Option.map_some,Stp.d,rW,kK,rA,oP,Off.s_isV,Off.s_size,Off.s_noOwn,hsB,hwV,hwS,hwB,Off.w_noOwn,↓bG,aD,↓wA,↓wC,wB,aF,aE,reduceEqDiff,reduceAdd,reduceSub,reduceIte,reduceCtorEq,Nat.reduceBEq,reduceLT,aP])|(refine bO ?_)|(with_reducible refine And.intro ?_ ?_)|(refine aH hS (by simp [bE,bV,Off.s_unown]) rfl ?_)|(refine aG hM' (by simp [bE,bV,Off.s_unown]) rfl ?_)|(refine aI (by simp only [bQ]; omega) ?_)|((first|apply aB|apply aC|apply aA)<;>intro h<;>try simp only [h]))
      all_goals
       refine nM _ rfl (aQ rfl (aQ rfl (aI (by simp only [bQ]; omega) (aI (by simp only [bQ]; omega) ?_))))
       refine ⟨i + 1,?_,by omega,by omega⟩
       rw [hN]
       exact (freeze 3 none [] (x:=p.w) (ob':=.box p.s) rfl rfl (by rw [Off.w_unown]; rfl)).trans (aN _ rfl ⟨⟨rfl,rfl⟩,⟨rfl,rfl⟩,⟨rfl,rfl⟩,⟨rfl,rfl⟩,⟨rfl,rfl⟩,trivial⟩)
   ·intro _ hd
    repeat' (first|(simp only [aJ,hd,aD,Off.s_isV,Off.s_size,Off.s_noOwn,↓bG,↓wA,↓wC,wB,aF,aE,reduceEqDiff,reduceAdd,reduceSub,reduceIte,reduceCtorEq,Nat.reduceBEq,reduceLT,aP])|((first|apply aB|apply aC|apply aA)<;>intro h<;>try simp only [h]))
    exact aQ rfl (aQ rfl (nM _ rfl rfl))
end Go.Pe.Tryz
set_option maxRecDepth 100000
set_option maxHeartbeats 4000000
set_option linter.all false
namespace Go.Pe.Tryz
open Nat (reduceEqDiff reduceAdd reduceSub reduceLT)
open Go.Proofs.Tryz
theorem Stp.d_noOwn (s:Stp):s.d.noOwn=true:=rfl
theorem Stp.d_isV (s:Stp):s.d.isV=true:=rfl
theorem Stp.d_size (s:Stp):s.d.size=4:=rfl
theorem Stp.d_unown (s:Stp):s.d.unown=s.d:=rfl
theorem hZ {o:List Ob} {K:SV->Prop} {s:Stp}:cE o (some 4) s.d K=K (.d s.d):=rW
def zS:D:=gJ 0 0 0 0
def os:Option Stp->D
 | some x=>x.d
 | none=>zS
end Go.Pe.Tryz
set_option maxRecDepth 100000
set_option maxHeartbeats 4000000
set_option linter.all false
namespace Go.Pe.Tryz
open Nat (reduceEqDiff reduceAdd reduceSub reduceLT)
open Go.Proofs.Tryz
def qL (o:Off) (ss:List Stp):Off×Int:=(lM o ss).getD (rY,0)
def aAZ (o:Off) (ss:List Stp):Bool:=(lM o ss).isSome
theorem aFO (o:Off) (ss:List Stp):(qL o ss).1.ok0:=by
 unfold qL lM
 split
 ·rename_i h
  rw [Bool.and_eq_true] at h
  exact dK (qM (ss:=ss) h.1 ss.length (Nat.le_refl _)).1
 ·exact vQ
theorem aAq (o:Off) (ss:List Stp) (ho:o.ok0) (hl:ss.length<=1048576):Fn prog 16 [o.s,.sl false 4 (dl Stp.d ss)] (fun rs=>rs=[(qL o ss).1.o,.int .i64 (qL o ss).2,.bool (aAZ o ss)]):=by
 have h:=aBl o ss ho hl
 unfold qL aAZ
 cases hq:lM o ss with
 | none=>rw [hq] at h; exact h
 | some q=>rw [hq] at h; exact h
theorem aAr (o:Off) (ss:List Stp) (ho:o.ok0) (hl:ss.length<=1048576):Fn prog 17 [o.s,.sl false 4 (dl Stp.d ss)] (fun rs=>rs=[(qL o ss).1.s,.int .i64 (qL o ss).2,.bool (aAZ o ss)]):=by
 have h:=aBP o ss ho hl
 unfold qL aAZ
 cases hq:lM o ss with
 | none =>
  rw [hq] at h
  simpa [uW,D.unown,Off.w_unown] using eO h
 | some q=>rw [hq] at h; exact h
end Go.Pe.Tryz
set_option maxRecDepth 100000
set_option maxHeartbeats 4000000
set_option linter.all false
namespace Go.Pe.Tryz
open Nat (reduceEqDiff reduceAdd reduceSub reduceLT)
open Go.Proofs.Tryz
def gC (cv:Value) (k:Nat) (seed:Int):D:=.st (.cons (.lnk 2 cv) (.cons (.int .i64 k) (.cons (.int .u64 seed) .nil)))
def cL (code:List UInt8) (cv:Value):List (Value×Nat×D):=[(cv,1,bH code)]
theorem bB (code:List UInt8) (cv:Value) {o:List Ob} (h1:o[2]?=some (.tag 1 cv)) (h2:o[1]?=some (.val (.sl false 1 (bH code)))):j9 o (cL code cv) :=
 ⟨⟨2,1,false,bH code,h1,h2,(oE code).symm⟩,trivial⟩
theorem uX (code:List UInt8) (cv:Value) (k:Nat) (seed:Int) (hc:code.length<=1048576) (hk:k<=1000000000000):vR prog 88 (gC cv k seed) (cL code cv) []
  (fun x' rs=>∃ (n:Int) (seed':Int),x'=gC cv (k + 1) seed'/\rs=[.int .i64 n]/\0<=n/\n < 256):=by
 have h0:(0:Int)<=(k:Int):=by omega
 refine lX (fn:=f88) (by exact func88) c88 r88 (n:=62) (by rfl) (rv:=[.tmp 2]) (by rfl) (by decide) (by simp) ?_
 unfold m88
 try simp only [wQ]
 simp only [gC,cL,iT,lS,pC,List.map_cons,List.map_nil,List.cons_append,List.nil_append]
 by_cases hlt:k < code.length
 ·obtain ⟨b,hb⟩:=bM hlt
  have hbl:(b.toNat:Int) < 256:=by have:=b.toNat_lt; omega
  have hd:decide ((k:Int) < (code.length:Int))=true:=decide_eq_true (by omega)
  have hd2:decide ((k:Int) + 1<=(code.length:Int))=true:=decide_eq_true (by omega)
  repeat' (first|(simp only [e7,eS,sN,hd,hd2,h0,hb,Int.toNat_natCast,Option.map_some,aD,↓wA,↓wC,wB,aF,aE,reduceEqDiff,reduceAdd,reduceSub,reduceIte,reduceCtorEq,Nat.reduceBEq,reduceLT])|(refine aI (by simp only [bQ]; omega) ?_)|(refine rC ?_)|((first|apply aB|apply aC|apply aA)<;>intro h<;>try simp only [h]))
  exact ⟨_,_,rfl,rfl,by omega,hbl⟩
 ·have hd:decide ((k:Int) < (code.length:Int))=false:=decide_eq_false (by omega)
  have hd2:decide ((k:Int) + 1<=(code.length:Int))=false:=decide_eq_false (by omega)
  repeat' (first|(simp only [e7,eS,hd,hd2,h0,aD,↓wA,↓wC,wB,aF,aE,reduceEqDiff,reduceAdd,reduceSub,reduceIte,reduceCtorEq,Nat.reduceBEq,reduceLT])|(with_reducible refine aI ?_ ?_; focus (simp only [bQ]; omega))|(with_reducible refine aQ ?_ ?_; focus omega)|(with_reducible refine rC (k:=.u64) ?_)|((first|apply aB|apply aC|apply aA)<;>intro h<;>try simp only [h]))
  generalize hX:(Int.fdiv _ _:Int)=X
  have h255:=aEO X
  refine aI (by simp only [bQ]; omega) ?_
  simp only [↓wA,↓wC,wB,aF,aE,reduceEqDiff,reduceAdd,reduceSub,reduceIte,reduceCtorEq,Nat.reduceBEq,reduceLT]
  exact ⟨_,_,rfl,rfl,h255.1,by omega⟩
theorem e9 (code:List UInt8) (cv:Value) (k:Nat) (seed n:Int) (hc:code.length<=1048576) (hk:k<=999999999990):vR prog 50 (gC cv k seed) (cL code cv) [.int .i64 n]
  (fun x' rs=>∃ (m:Int) (k':Nat) (seed':Int),x'=gC cv k' seed'/\rs=[.int .i64 m]/\k<=k'/\k'<=k + 2/\0<=m/\(m < n\/m=0)):=by
 cases h1:decide (n<=1) with
 | true =>
  refine lX (fn:=f50) (by exact func50) c50 r50 (n:=20) (by rfl) (rv:=[.tmp 4]) (by rfl) (by decide) (by simp) ?_
  unfold m50
  try simp only [wQ]
  simp only [cL,iT,lS,pC,List.map_cons,List.map_nil,List.cons_append,List.nil_append]
  repeat' (first|(simp only [h1,↓wA,↓wC,wB,aF,aE,reduceEqDiff,reduceAdd,reduceSub,reduceIte,reduceCtorEq,Nat.reduceBEq,reduceLT])|((first|apply aB|apply aC|apply aA)<;>intro h<;>try simp only [h]))
  exact ⟨0,k,seed,rfl,rfl,by omega,by omega,by omega,.inr rfl⟩
 | false =>
  have h1':=of_decide_eq_false h1
  have hn0:n≠0:=by omega
  cases h2:decide (200 < n) with
  | false =>
   refine lX (fn:=f50) (by exact func50) c50 r50 (n:=20) (by rfl) (rv:=[.tmp 4]) (by rfl) (by decide) (by simp) ?_
   unfold m50
   try simp only [wQ]
   simp only [cL,iT,lS,pC,List.map_cons,List.map_nil,List.cons_append,List.nil_append]
   repeat' (first|(simp only [h1,h2,↓wA,↓wC,wB,aF,aE,reduceEqDiff,reduceAdd,reduceSub,reduceIte,reduceCtorEq,Nat.reduceBEq,reduceLT])|((first|apply aB|apply aC|apply aA)<;>intro h<;>try simp only [h]))
   refine aZ (uX code cv k seed hc (by omega)) rfl rfl rfl (bB code cv rfl rfl) ?_
   rintro _ _ ⟨a,s1,rfl,rfl,ha0,ha1⟩
   refine ⟨⟨rfl,rfl⟩,?_⟩
   have t0:0<=a.tmod n:=Int.tmod_nonneg _ ha0
   have t1:a.tmod n < n:=Int.tmod_lt_of_pos _ (by omega)
   repeat' (first|(simp only [h1,h2,↓wA,↓wC,wB,aF,aE,reduceEqDiff,reduceAdd,reduceSub,reduceIte,reduceCtorEq,Nat.reduceBEq,reduceLT])|(with_reducible refine aQ hn0 ?_)|(with_reducible refine aI ?_ ?_; focus (simp only [bQ]; omega))|((first|apply aB|apply aC|apply aA)<;>intro h<;>try simp only [h]))
   exact ⟨_,k + 1,s1,rfl,rfl,by omega,by omega,t0,.inl t1⟩
  | true =>
   refine lX (fn:=f50) (by exact func50) c50 r50 (n:=20) (by rfl) (rv:=[.tmp 4]) (by rfl) (by decide) (by simp) ?_
   unfold m50
   try simp only [wQ]
   simp only [cL,iT,lS,pC,List.map_cons,List.map_nil,List.cons_append,List.nil_append]
   repeat' (first|(simp only [h1,h2,↓wA,↓wC,wB,aF,aE,reduceEqDiff,reduceAdd,reduceSub,reduceIte,reduceCtorEq,Nat.reduceBEq,reduceLT])|((first|apply aB|apply aC|apply aA)<;>intro h<;>try simp only [h]))
   refine aZ (uX code cv k seed hc (by omega)) rfl rfl rfl (bB code cv rfl rfl) ?_
   rintro _ _ ⟨a,s1,rfl,rfl,ha0,ha1⟩
   refine ⟨⟨rfl,rfl⟩,?_⟩
   repeat' (first|(simp only [h1,h2,↓wA,↓wC,wB,aF,aE,reduceEqDiff,reduceAdd,reduceSub,reduceIte,reduceCtorEq,Nat.reduceBEq,reduceLT])|(with_reducible refine aI ?_ ?_; focus (simp only [bQ]; omega))|((first|apply aB|apply aC|apply aA)<;>intro h<;>try simp only [h]))
   refine aZ (uX code cv (k + 1) s1 hc (by omega)) rfl rfl rfl (bB code cv rfl rfl) ?_
   rintro _ _ ⟨b,s2,rfl,rfl,hb0,hb1⟩
   refine ⟨⟨rfl,rfl⟩,?_⟩
   have t0:0<=(a * 256 + b).tmod n:=Int.tmod_nonneg _ (by omega)
   have t1:(a * 256 + b).tmod n < n:=Int.tmod_lt_of_pos _ (by omega)
   repeat' (first|(simp only [h1,h2,↓wA,↓wC,wB,aF,aE,reduceEqDiff,reduceAdd,reduceSub,reduceIte,reduceCtorEq,Nat.reduceBEq,reduceLT])|(with_reducible refine aQ hn0 ?_)|(with_reducible refine aI ?_ ?_; focus (simp only [bQ]; omega))|((first|apply aB|apply aC|apply aA)<;>intro h<;>try simp only [h]))
   exact ⟨_,k + 1 + 1,s2,rfl,rfl,by omega,by omega,t0,.inl t1⟩
theorem yO (code:List UInt8) (cv:Value) (k:Nat) (seed n:Int) (hc:code.length<=1048576) (hk:k<=999999999990):vR prog 51 (gC cv k seed) (cL code cv) [.int .i64 n]
  (fun x' rs=>∃ (b:Bool) (k':Nat) (seed':Int),x'=gC cv k' seed'/\rs=[.bool b]/\k<=k'/\k'<=k + 2):=by
 refine lX (fn:=f51) (by exact func51) c51 r51 (n:=9) (by rfl) (rv:=[.tmp 4]) (by rfl) (by decide) (by simp) ?_
 unfold m51
 try simp only [wQ]
 simp only [cL,iT,lS,pC,List.map_cons,List.map_nil,List.cons_append,List.nil_append]
 try simp only [↓wA,↓wC,wB,aF,aE,reduceEqDiff,reduceAdd,reduceSub,reduceIte,reduceCtorEq,Nat.reduceBEq,reduceLT]
 refine aZ (e9 code cv k seed n hc (by omega)) rfl rfl rfl (bB code cv rfl rfl) ?_
 rintro _ _ ⟨m,k1,s1,rfl,rfl,hk1,hk1',hm,hm'⟩
 refine ⟨⟨rfl,rfl⟩,?_⟩
 simp only [↓wA,↓wC,wB,aF,aE,reduceEqDiff,reduceAdd,reduceSub,reduceIte,reduceCtorEq,Nat.reduceBEq,reduceLT]
 exact ⟨_,k1,s1,rfl,rfl,hk1,hk1'⟩
theorem b8 (code:List UInt8) (cv:Value) (k:Nat) (seed:Int) (v:List Int) (hc:code.length<=1048576) (hk:k<=999999999990) (hv:0 < v.length) (hl:v.length<=1048576):vR prog 56 (gC cv k seed) (cL code cv) [.sl false 1 (dl iD v)]
  (fun x' rs=>∃ (m:Int) (k':Nat) (seed':Int),x'=gC cv k' seed'/\rs=[.int .i64 m]/\k<=k'/\k'<=k + 2/\m∈v):=by
 refine lX (fn:=f56) (by exact func56) c56 r56 (n:=12) (by rfl) (rv:=[.tmp 4]) (by rfl) (by decide) (by simp) ?_
 unfold m56
 try simp only [wQ]
 simp only [cL,iT,lS,pC,List.map_cons,List.map_nil,List.cons_append,List.nil_append]
 try simp only [aJ,↓wA,↓wC,wB,aF,aE,reduceEqDiff,reduceAdd,reduceSub,reduceIte,reduceCtorEq,Nat.reduceBEq,reduceLT]
 refine aZ (e9 code cv k seed v.length hc (by omega)) rfl rfl rfl (bB code cv rfl rfl) ?_
 rintro _ _ ⟨m,k1,s1,rfl,rfl,hk1,hk1',hm,hm'⟩
 refine ⟨⟨rfl,rfl⟩,?_⟩
 obtain ⟨y,hy⟩:=bM (show m.toNat < v.length by omega)
 repeat' (first|(simp only [aJ,aX,hm,hy,Option.map_some,aD,iM,↓wA,↓wC,wB,aF,aE,reduceEqDiff,reduceAdd,reduceSub,reduceIte,reduceCtorEq,Nat.reduceBEq,reduceLT])|((first|apply aB|apply aC|apply aA)<;>intro h<;>try simp only [h]))
 exact ⟨y,k1,s1,rfl,rfl,hk1,hk1',List.mem_of_getElem? hy⟩
end Go.Pe.Tryz
