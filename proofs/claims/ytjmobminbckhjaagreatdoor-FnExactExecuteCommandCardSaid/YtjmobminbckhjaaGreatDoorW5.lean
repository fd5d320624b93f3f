/- Steps of an office: the reference's l25Act; walked; Steps of an office: the reference's l25Make; walked; Steps of an office: the reference's StepOffice and RunOffice; walked; Steps of an office: the law of StepOffice; Runs of steps of an office: the reference's RunOffice; walked; Runs of steps of an office: the law of RunOffice; Runs of steps of an office: the law of RunOffice, walked; Numbers read out of texts, as plain lists of bytes; a text cut at several bytes; Numbers read out of texts; texts cut: walked; A console's answers, as plain lists: the program's road and the reference's agree; A new office, and what the laws do with its parts, walked; The law of NewConsole, walked -/
import Derived.Test.YtjmobminbckhjaaGreatDoorW4
import Derived.Test.YtjmobminbckhjaaGreatDoorPeD
import Derived.Test.YtjmobminbckhjaaGreatDoorMc1
import Derived.Test.YtjmobminbckhjaaGreatDoorMc2
import Derived.Test.YtjmobminbckhjaaGreatDoorMc3
import Derived.Test.YtjmobminbckhjaaGreatDoorMc4
import Derived.Test.YtjmobminbckhjaaGreatDoorMc5
import Derived.Test.YtjmobminbckhjaaGreatDoorMc6
import Derived.Test.YtjmobminbckhjaaGreatDoorMc7
import Derived.Test.YtjmobminbckhjaaGreatDoorMc8
import Derived.Test.YtjmobminbckhjaaGreatDoorW1
import Derived.Test.YtjmobminbckhjaaGreatDoorW2
set_option maxRecDepth 100000
set_option maxHeartbeats 4000000
set_option linter.all false
open And renaming intro->aC
open Bool renaming false_and->aE, and_eq_true->aG, true_and->aJ, false_eq_true->aQ, and_true->aZ
open Int renaming toNat_natCast->aB
open List renaming cons_append->aF, mem_of_getElem?->aH, nil_append->aI, all_eq_true->aK, length_cons->aL, length_pos_iff->aM, take_length->aN, drop_succ_cons->aP, mem_of_mem_eraseIdx->aR, length_eraseIdx_le->aS, mem_append->aT, mem_singleton->aV, drop_left'->aW, drop_drop->aX
open Nat renaming reduceBEq->aA, le_refl->aO, pow_le_pow_right->aU, add_assoc->aY, add_comm->a6, reduceEqDiff->a7, reduceAdd->a8, reduceSub->bA, reduceLT->bB
open Option renaming map_some->aD
namespace Go.Pe.Tryz
open Go.Proofs.Tryz
def aAZ (o:Off) (x:Cs) (i:Nat) (a:Nat) (l:List Ob):St:=⟨[(1,.d (.int .i64 i)),(2,.d (.ptr o.s)),(4,.ptr 1 0 []),(6,.ptr a 0 []),(7,.d (.ptr x.s))],.dead :: .box zO :: (l ++ [.box (dU o (.sl true 4 (dl Cs.s o.cs)) (.sl true 1 (dl D.str o.led)))])⟩
theorem aCE {s:St} (q:Nat) {x y:D} (hq:s.o[q]?=some (.box x)) (hy:x.unown=y):gO s ⟨cL q y s.e,s.o.set q .dead⟩:=hy ▸ gI q hq
theorem aJ8 (o:Off) (i:Nat) (x:Cs) (ho:dO o=true) (hr:o.cs[i]?=some x):Fn prog 171 [o.s,.int .i64 i] (fun rs=>rs=[(lJ o i x).w,.bool (eE o x && dO (lJ o i x))]):=by
 have ho0:=fB ho
 have hp:=eK ho
 have hO:=j9 o ho0
 have hno:o.w.noOwn=false:=by simp [Off.w,dU,D.noOwn]
 have hwV:o.w.isV=true:=rfl
 have hwS:o.w.size=5:=rfl
 have h0:(0:Int)<=(i:Int):=by omega
 refine cW aQ0 [[1,1,1,0,1,0,1,1,1,1,0],[1,1,0],[1,0]] ?_
 dsimp only [aQ0,cT,c7]
 repeat' (first|(simp only [aWu,aWw,aWz,hno,hwV,hwS,↓dF,cJ,↓wA,↓wC,wB,cL,cK,a7,a8,bA,reduceIte,reduceCtorEq,aA,bB,dE])|((first|apply cG|apply cH|apply cF)<;>intro h<;>try simp only [h]))
 refine c8 (gI 0 rfl) ?_
 simp only [cL,cK,aWv,↓wA,↓wC,wB,cL,cK,a7,a8,bA,reduceIte,reduceCtorEq,aA,bB,dE]
 have hfa:∀ K:SV->Prop,dG 1 1 (.d (.ptr o.s)) K=K (.d (.ptr (.sl false 4 (dl Cs.s o.cs)))):=fun K=>by simp [Off.s,dU,dG,D.pre,D.nth,D.size]
 simp only [hfa,hr,h0,cO,c6,aB,aD,cX,aWu,aWw,aWz,hno,hwV,hwS,↓dF,↓iH,cJ,aWD,aWC,↓wA,↓wC,wB,cL,cK,a7,a8,bA,reduceIte,reduceCtorEq,aA,bB,dE]
 refine aQy (fun s=>gO s (aAZ o x i 2 [])\/gO s (aAZ o x i 3 [.dead])\/gO s (aAZ o x i 4 [.dead,.dead])) ?_ ?_
 ·repeat' (first
   |(with_reducible refine aC ?_ ?_)
   |(refine cI hO (by simp [dB,dI,aWv]) rfl ?_)
   |(refine cM hO (by simp [dB,dI]) rfl ?_)
   |(simp only [hno,hwV,hwS,aWu,aWw,aWz,aWF,aWD,aWC,cJ,↓wA,↓wC,wB,cL,cK,a7,a8,bA,reduceIte,reduceCtorEq,aA,bB,dE]))
  all_goals (first
   | exact .inl ((aCE 3 rfl (aWE x)).trans (cU _ rfl ⟨⟨rfl,rfl⟩,⟨rfl,rfl⟩,⟨rfl,rfl⟩,⟨rfl,rfl⟩,⟨rfl,rfl⟩,trivial⟩))
   | exact .inl ((aCE 4 rfl (aWE x)).trans (cU _ rfl ⟨⟨rfl,rfl⟩,⟨rfl,rfl⟩,⟨rfl,rfl⟩,⟨rfl,rfl⟩,⟨rfl,rfl⟩,trivial⟩))
   | exact .inr (.inl ((aCE 2 rfl (aWE x)).trans (cU _ rfl ⟨⟨rfl,rfl⟩,⟨rfl,rfl⟩,⟨rfl,rfl⟩,⟨rfl,rfl⟩,⟨rfl,rfl⟩,trivial⟩)))
   | exact .inr (.inl ((aCE 4 rfl (aWE x)).trans (cU _ rfl ⟨⟨rfl,rfl⟩,⟨rfl,rfl⟩,⟨rfl,rfl⟩,⟨rfl,rfl⟩,⟨rfl,rfl⟩,trivial⟩)))
   | exact .inr (.inr ((aCE 2 rfl (aWE x)).trans (cU _ rfl ⟨⟨rfl,rfl⟩,⟨rfl,rfl⟩,⟨rfl,rfl⟩,⟨rfl,rfl⟩,⟨rfl,rfl⟩,trivial⟩)))
   | exact .inr (.inr ((aCE 3 rfl (aWE x)).trans (cU _ rfl ⟨⟨rfl,rfl⟩,⟨rfl,rfl⟩,⟨rfl,rfl⟩,⟨rfl,rfl⟩,⟨rfl,rfl⟩,trivial⟩))))
 ·have hil:=cV hr
  have hfx:∀ K:SV->Prop,dG 1 1 (.d (.ptr x.s)) K=K (.d (.ptr (.int .i64 x.a))):=fun K=>by simp [Cs.s,Cs.p,dG,D.pre,D.nth,D.size]
  have hf2:∀ K:SV->Prop,dG 2 2 (.d (.ptr o.s)) K=K (.d (.ptr (.int .i64 o.kept))):=fun K=>by simp [Off.s,dU,dG,D.pre,D.nth,D.size]
  have hf3:∀ K:SV->Prop,dG 3 3 (.d (.ptr o.s)) K=K (.d (.ptr (.int .i64 o.moved))):=fun K=>by simp [Off.s,dU,dG,D.pre,D.nth,D.size]
  have hf0:∀ K:SV->Prop,dG 0 0 (.d (.ptr o.s)) K=K (.d (.ptr (.int .i64 o.day))):=fun K=>by simp [Off.s,dU,dG,D.pre,D.nth,D.size]
  have hx2:∀ K:SV->Prop,dG 2 2 (.d (.ptr x.s)) K=K (.d (.ptr (.int .i64 x.d))):=fun K=>by simp [Cs.s,Cs.p,dG,D.pre,D.nth]
  have hx0:∀ K:SV->Prop,dG 0 0 (.d (.ptr x.s)) K=K (.d (.ptr (.int .i64 x.i))):=fun K=>by simp [Cs.s,Cs.p,dG,D.pre,D.nth,D.size]
  have hx3:∀ K:SV->Prop,dG 3 3 (.d (.ptr x.s)) K=K (.d (.ptr (.sl false 1 (dl iD x.h)))):=fun K=>by simp [Cs.s,Cs.p,dG,D.pre,D.nth]
  have hs1:(dl Cs.s o.cs).sub 0 i=dl Cs.s (o.cs.take i):=by rw [pR]; rfl
  have hs2:(dl Cs.s o.cs).sub (i + 1) o.cs.length=dl Cs.s (o.cs.drop (i + 1)):=by rw [pR,aN]
  have htn:((i:Int) + 1).toNat=i + 1:=by omega
  have happ:(dl Cs.s (o.cs.take i)).app (dl Cs.s (o.cs.drop (i + 1)))=dl Cs.s (o.cs.eraseIdx i):=by rw [w6,List.eraseIdx_eq_take_drop_succ]
  have hl1:(o.cs.take i).length=i:=by simp; omega
  have hl2:(o.cs.drop (i + 1)).length=o.cs.length - (i + 1):=by simp
  have hok:(lJ o i x).ok0:=by
   have hle:o5 (o.cs.eraseIdx i):=⟨by have:=aS o.cs i; omega,fun y hy=>ho0.1.2 y (aR hy)⟩
   unfold lJ
   split
   ·exact ⟨hle,ho0.2⟩
   ·split
    ·exact ⟨hle,ho0.2⟩
    ·refine ⟨hle,by simp; omega,fun s hs=>?_⟩
     have hxc:=fH (hp.2.2.2.2.2.2.2.2.2 x (aH hr))
     rcases aT.1 hs with hs|hs
     ·exact ho0.2.2 s hs
     ·rw [aV.1 hs]
      have h1:=eS x.i (by simp only [dX]; omega)
      have h2:=eS o.day (by simp only [dX]; omega)
      simp [l8]; omega
  have hG:=fV (lJ o i x) hok
  cases k1:decide (x.a=1) with
  | true =>
   have ha:=k1
   have k2:=k1
   have hu:(D.st (.cons (.int .i64 o.day) (.cons (.sl true 4 (dl Cs.s (o.cs.eraseIdx i))) (.cons (.int .i64 (o.kept + 1)) (.cons (.int .i64 o.moved) (.cons (.sl true 1 (dl D.str o.led)) .nil)))))).unown=(lJ o i x).s:=by
    unfold lJ
    rw [if_pos (of_decide_eq_true k1)]
    simp [Off.s,dU,D.unown,fS,fA]
   have hwE:(D.st (.cons (.int .i64 o.day) (.cons (.sl true 4 (dl Cs.s (o.cs.eraseIdx i))) (.cons (.int .i64 (o.kept + 1)) (.cons (.int .i64 o.moved) (.cons (.sl true 1 (dl D.str o.led)) .nil))))))=(lJ o i x).w:=by
    unfold lJ
    rw [if_pos (of_decide_eq_true k1)]
    rfl
   rintro s' (h|h|h)
   ·refine ⟨_,h,?_⟩
    simp only [aAZ,aF,aI,↓wA,↓wC,wB,cL,cK,a7,a8,bA,reduceIte,reduceCtorEq,aA,bB,dE]
    refine c8 (freeze 2 none [1] (x:=.sl true 4 (dl Cs.s o.cs)) rfl rfl rfl) ?_
    simp only [dY,dU,D.unown,fS,↓wA,↓wC,wB,cL,cK,a7,a8,bA,reduceIte,reduceCtorEq,aA,bB,dE]
    cases hdd:decide (x.d<=o.day) with
    | true =>
     have hdb:eE o x=true:=by simp [eE,of_decide_eq_true hdd,of_decide_eq_true k1]
     repeat' (first|(simp only [cJ,dQ,cO,cX,cR,hfx,hf0,hf2,hf3,hx0,hx2,hx3,aB,htn,hs1,hs2,happ,hl1,hl2,ha,hdd,k1,k2,↓wA,↓wC,wB,cL,cK,a7,a8,bA,reduceIte,reduceCtorEq,aA,bB,dE])|(refine dL ?_)|(with_reducible refine aC ?_ ?_)|(with_reducible refine cQ ?_ ?_; focus omega)|(with_reducible refine cP ?_ ?_; focus (simp only [dX]; omega))|(refine cI hG (congrArg (fun d:D=>some [d]) hu) rfl ?_)|(refine cM hG (congrArg (fun d:D=>some [d]) hu) rfl ?_)|((first|apply cG|apply cH|apply cF)<;>intro h<;>try simp only [h]))
     all_goals (refine cQ rfl ?_; rw [hwE,hdb,aJ])
    | false =>
     have hdb:eE o x=false:=by simp [eE,of_decide_eq_false hdd]
     repeat' (first|(simp only [cJ,dQ,cO,cX,cR,hfx,hf0,hf2,hf3,hx0,hx2,hx3,aB,htn,hs1,hs2,happ,hl1,hl2,ha,hdd,k1,k2,↓wA,↓wC,wB,cL,cK,a7,a8,bA,reduceIte,reduceCtorEq,aA,bB,dE])|(refine dL ?_)|(with_reducible refine aC ?_ ?_)|(with_reducible refine cQ ?_ ?_; focus omega)|(with_reducible refine cP ?_ ?_; focus (simp only [dX]; omega))|(refine cI hG (congrArg (fun d:D=>some [d]) hu) rfl ?_)|(refine cM hG (congrArg (fun d:D=>some [d]) hu) rfl ?_)|((first|apply cG|apply cH|apply cF)<;>intro h<;>try simp only [h]))
     all_goals (refine cQ rfl ?_; rw [hwE,hdb,aE])
   ·refine ⟨_,h,?_⟩
    simp only [aAZ,aF,aI,↓wA,↓wC,wB,cL,cK,a7,a8,bA,reduceIte,reduceCtorEq,aA,bB,dE]
    refine c8 (freeze 3 none [1] (x:=.sl true 4 (dl Cs.s o.cs)) rfl rfl rfl) ?_
    simp only [dY,dU,D.unown,fS,↓wA,↓wC,wB,cL,cK,a7,a8,bA,reduceIte,reduceCtorEq,aA,bB,dE]
    cases hdd:decide (x.d<=o.day) with
    | true =>
     have hdb:eE o x=true:=by simp [eE,of_decide_eq_true hdd,of_decide_eq_true k1]
     repeat' (first|(simp only [cJ,dQ,cO,cX,cR,hfx,hf0,hf2,hf3,hx0,hx2,hx3,aB,htn,hs1,hs2,happ,hl1,hl2,ha,hdd,k1,k2,↓wA,↓wC,wB,cL,cK,a7,a8,bA,reduceIte,reduceCtorEq,aA,bB,dE])|(refine dL ?_)|(with_reducible refine aC ?_ ?_)|(with_reducible refine cQ ?_ ?_; focus omega)|(with_reducible refine cP ?_ ?_; focus (simp only [dX]; omega))|(refine cI hG (congrArg (fun d:D=>some [d]) hu) rfl ?_)|(refine cM hG (congrArg (fun d:D=>some [d]) hu) rfl ?_)|((first|apply cG|apply cH|apply cF)<;>intro h<;>try simp only [h]))
     all_goals (refine cQ rfl ?_; rw [hwE,hdb,aJ])
    | false =>
     have hdb:eE o x=false:=by simp [eE,of_decide_eq_false hdd]
     repeat' (first|(simp only [cJ,dQ,cO,cX,cR,hfx,hf0,hf2,hf3,hx0,hx2,hx3,aB,htn,hs1,hs2,happ,hl1,hl2,ha,hdd,k1,k2,↓wA,↓wC,wB,cL,cK,a7,a8,bA,reduceIte,reduceCtorEq,aA,bB,dE])|(refine dL ?_)|(with_reducible refine aC ?_ ?_)|(with_reducible refine cQ ?_ ?_; focus omega)|(with_reducible refine cP ?_ ?_; focus (simp only [dX]; omega))|(refine cI hG (congrArg (fun d:D=>some [d]) hu) rfl ?_)|(refine cM hG (congrArg (fun d:D=>some [d]) hu) rfl ?_)|((first|apply cG|apply cH|apply cF)<;>intro h<;>try simp only [h]))
     all_goals (refine cQ rfl ?_; rw [hwE,hdb,aE])
   ·refine ⟨_,h,?_⟩
    simp only [aAZ,aF,aI,↓wA,↓wC,wB,cL,cK,a7,a8,bA,reduceIte,reduceCtorEq,aA,bB,dE]
    refine c8 (freeze 4 none [1] (x:=.sl true 4 (dl Cs.s o.cs)) rfl rfl rfl) ?_
    simp only [dY,dU,D.unown,fS,↓wA,↓wC,wB,cL,cK,a7,a8,bA,reduceIte,reduceCtorEq,aA,bB,dE]
    cases hdd:decide (x.d<=o.day) with
    | true =>
     have hdb:eE o x=true:=by simp [eE,of_decide_eq_true hdd,of_decide_eq_true k1]
     repeat' (first|(simp only [cJ,dQ,cO,cX,cR,hfx,hf0,hf2,hf3,hx0,hx2,hx3,aB,htn,hs1,hs2,happ,hl1,hl2,ha,hdd,k1,k2,↓wA,↓wC,wB,cL,cK,a7,a8,bA,reduceIte,reduceCtorEq,aA,bB,dE])|(refine dL ?_)|(with_reducible refine aC ?_ ?_)|(with_reducible refine cQ ?_ ?_; focus omega)|(with_reducible refine cP ?_ ?_; focus (simp only [dX]; omega))|(refine cI hG (congrArg (fun d:D=>some [d]) hu) rfl ?_)|(refine cM hG (congrArg (fun d:D=>some [d]) hu) rfl ?_)|((first|apply cG|apply cH|apply cF)<;>intro h<;>try simp only [h]))
     all_goals (refine cQ rfl ?_; rw [hwE,hdb,aJ])
    | false =>
     have hdb:eE o x=false:=by simp [eE,of_decide_eq_false hdd]
     repeat' (first|(simp only [cJ,dQ,cO,cX,cR,hfx,hf0,hf2,hf3,hx0,hx2,hx3,aB,htn,hs1,hs2,happ,hl1,hl2,ha,hdd,k1,k2,↓wA,↓wC,wB,cL,cK,a7,a8,bA,reduceIte,reduceCtorEq,aA,bB,dE])|(refine dL ?_)|(with_reducible refine aC ?_ ?_)|(with_reducible refine cQ ?_ ?_; focus omega)|(with_reducible refine cP ?_ ?_; focus (simp only [dX]; omega))|(refine cI hG (congrArg (fun d:D=>some [d]) hu) rfl ?_)|(refine cM hG (congrArg (fun d:D=>some [d]) hu) rfl ?_)|((first|apply cG|apply cH|apply cF)<;>intro h<;>try simp only [h]))
     all_goals (refine cQ rfl ?_; rw [hwE,hdb,aE])
  | false =>
   have k1':=of_decide_eq_false k1
   cases k2:decide (x.a=2) with
   | true =>
    have ha:=k2
    have hu:(D.st (.cons (.int .i64 o.day) (.cons (.sl true 4 (dl Cs.s (o.cs.eraseIdx i))) (.cons (.int .i64 o.kept) (.cons (.int .i64 (o.moved + 1)) (.cons (.sl true 1 (dl D.str o.led)) .nil)))))).unown=(lJ o i x).s:=by
     unfold lJ
     rw [if_neg k1',if_pos (of_decide_eq_true k2)]
     simp [Off.s,dU,D.unown,fS,fA]
    have hwE:(D.st (.cons (.int .i64 o.day) (.cons (.sl true 4 (dl Cs.s (o.cs.eraseIdx i))) (.cons (.int .i64 o.kept) (.cons (.int .i64 (o.moved + 1)) (.cons (.sl true 1 (dl D.str o.led)) .nil))))))=(lJ o i x).w:=by
     unfold lJ
     rw [if_neg k1',if_pos (of_decide_eq_true k2)]
     rfl
    rintro s' (h|h|h)
    ·refine ⟨_,h,?_⟩
     simp only [aAZ,aF,aI,↓wA,↓wC,wB,cL,cK,a7,a8,bA,reduceIte,reduceCtorEq,aA,bB,dE]
     refine c8 (freeze 2 none [1] (x:=.sl true 4 (dl Cs.s o.cs)) rfl rfl rfl) ?_
     simp only [dY,dU,D.unown,fS,↓wA,↓wC,wB,cL,cK,a7,a8,bA,reduceIte,reduceCtorEq,aA,bB,dE]
     cases hdd:decide (x.d<=o.day) with
     | true =>
      have hdb:eE o x=true:=by simp [eE,of_decide_eq_true hdd,of_decide_eq_true k2]
      repeat' (first|(simp only [cJ,dQ,cO,cX,cR,hfx,hf0,hf2,hf3,hx0,hx2,hx3,aB,htn,hs1,hs2,happ,hl1,hl2,ha,hdd,k1,k2,↓wA,↓wC,wB,cL,cK,a7,a8,bA,reduceIte,reduceCtorEq,aA,bB,dE])|(refine dL ?_)|(with_reducible refine aC ?_ ?_)|(with_reducible refine cQ ?_ ?_; focus omega)|(with_reducible refine cP ?_ ?_; focus (simp only [dX]; omega))|(refine cI hG (congrArg (fun d:D=>some [d]) hu) rfl ?_)|(refine cM hG (congrArg (fun d:D=>some [d]) hu) rfl ?_)|((first|apply cG|apply cH|apply cF)<;>intro h<;>try simp only [h]))
      all_goals (refine cQ rfl ?_; rw [hwE,hdb,aJ])
     | false =>
      have hdb:eE o x=false:=by simp [eE,of_decide_eq_false hdd]
      repeat' (first|(simp only [cJ,dQ,cO,cX,cR,hfx,hf0,hf2,hf3,hx0,hx2,hx3,aB,htn,hs1,hs2,happ,hl1,hl2,ha,hdd,k1,k2,↓wA,↓wC,wB,cL,cK,a7,a8,bA,reduceIte,reduceCtorEq,aA,bB,dE])|(refine dL ?_)|(with_reducible refine aC ?_ ?_)|(with_reducible refine cQ ?_ ?_; focus omega)|(with_reducible refine cP ?_ ?_; focus (simp only [dX]; omega))|(refine cI hG (congrArg (fun d:D=>some [d]) hu) rfl ?_)|(refine cM hG (congrArg (fun d:D=>some [d]) hu) rfl ?_)|((first|apply cG|apply cH|apply cF)<;>intro h<;>try simp only [h]))
      all_goals (refine cQ rfl ?_; rw [hwE,hdb,aE])
    ·refine ⟨_,h,?_⟩
     simp only [aAZ,aF,aI,↓wA,↓wC,wB,cL,cK,a7,a8,bA,reduceIte,reduceCtorEq,aA,bB,dE]
     refine c8 (freeze 3 none [1] (x:=.sl true 4 (dl Cs.s o.cs)) rfl rfl rfl) ?_
     simp only [dY,dU,D.unown,fS,↓wA,↓wC,wB,cL,cK,a7,a8,bA,reduceIte,reduceCtorEq,aA,bB,dE]
     cases hdd:decide (x.d<=o.day) with
     | true =>
      have hdb:eE o x=true:=by simp [eE,of_decide_eq_true hdd,of_decide_eq_true k2]
      repeat' (first|(simp only [cJ,dQ,cO,cX,cR,hfx,hf0,hf2,hf3,hx0,hx2,hx3,aB,htn,hs1,hs2,happ,hl1,hl2,ha,hdd,k1,k2,↓wA,↓wC,wB,cL,cK,a7,a8,bA,reduceIte,reduceCtorEq,aA,bB,dE])|(refine dL ?_)|(with_reducible refine aC ?_ ?_)|(with_reducible refine cQ ?_ ?_; focus omega)|(with_reducible refine cP ?_ ?_; focus (simp only [dX]; omega))|(refine cI hG (congrArg (fun d:D=>some [d]) hu) rfl ?_)|(refine cM hG (congrArg (fun d:D=>some [d]) hu) rfl ?_)|((first|apply cG|apply cH|apply cF)<;>intro h<;>try simp only [h]))
      all_goals (refine cQ rfl ?_; rw [hwE,hdb,aJ])
     | false =>
      have hdb:eE o x=false:=by simp [eE,of_decide_eq_false hdd]
      repeat' (first|(simp only [cJ,dQ,cO,cX,cR,hfx,hf0,hf2,hf3,hx0,hx2,hx3,aB,htn,hs1,hs2,happ,hl1,hl2,ha,hdd,k1,k2,↓wA,↓wC,wB,cL,cK,a7,a8,bA,reduceIte,reduceCtorEq,aA,bB,dE])|(refine dL ?_)|(with_reducible refine aC ?_ ?_)|(with_reducible refine cQ ?_ ?_; focus omega)|(with_reducible refine cP ?_ ?_; focus (simp only [dX]; omega))|(refine cI hG (congrArg (fun d:D=>some [d]) hu) rfl ?_)|(refine cM hG (congrArg (fun d:D=>some [d]) hu) rfl ?_)|((first|apply cG|apply cH|apply cF)<;>intro h<;>try simp only [h]))
      all_goals (refine cQ rfl ?_; rw [hwE,hdb,aE])
    ·refine ⟨_,h,?_⟩
     simp only [aAZ,aF,aI,↓wA,↓wC,wB,cL,cK,a7,a8,bA,reduceIte,reduceCtorEq,aA,bB,dE]
     refine c8 (freeze 4 none [1] (x:=.sl true 4 (dl Cs.s o.cs)) rfl rfl rfl) ?_
     simp only [dY,dU,D.unown,fS,↓wA,↓wC,wB,cL,cK,a7,a8,bA,reduceIte,reduceCtorEq,aA,bB,dE]
     cases hdd:decide (x.d<=o.day) with
     | true =>
      have hdb:eE o x=true:=by simp [eE,of_decide_eq_true hdd,of_decide_eq_true k2]
      repeat' (first|(simp only [cJ,dQ,cO,cX,cR,hfx,hf0,hf2,hf3,hx0,hx2,hx3,aB,htn,hs1,hs2,happ,hl1,hl2,ha,hdd,k1,k2,↓wA,↓wC,wB,cL,cK,a7,a8,bA,reduceIte,reduceCtorEq,aA,bB,dE])|(refine dL ?_)|(with_reducible refine aC ?_ ?_)|(with_reducible refine cQ ?_ ?_; focus omega)|(with_reducible refine cP ?_ ?_; focus (simp only [dX]; omega))|(refine cI hG (congrArg (fun d:D=>some [d]) hu) rfl ?_)|(refine cM hG (congrArg (fun d:D=>some [d]) hu) rfl ?_)|((first|apply cG|apply cH|apply cF)<;>intro h<;>try simp only [h]))
      all_goals (refine cQ rfl ?_; rw [hwE,hdb,aJ])
     | false =>
      have hdb:eE o x=false:=by simp [eE,of_decide_eq_false hdd]
      repeat' (first|(simp only [cJ,dQ,cO,cX,cR,hfx,hf0,hf2,hf3,hx0,hx2,hx3,aB,htn,hs1,hs2,happ,hl1,hl2,ha,hdd,k1,k2,↓wA,↓wC,wB,cL,cK,a7,a8,bA,reduceIte,reduceCtorEq,aA,bB,dE])|(refine dL ?_)|(with_reducible refine aC ?_ ?_)|(with_reducible refine cQ ?_ ?_; focus omega)|(with_reducible refine cP ?_ ?_; focus (simp only [dX]; omega))|(refine cI hG (congrArg (fun d:D=>some [d]) hu) rfl ?_)|(refine cM hG (congrArg (fun d:D=>some [d]) hu) rfl ?_)|((first|apply cG|apply cH|apply cF)<;>intro h<;>try simp only [h]))
      all_goals (refine cQ rfl ?_; rw [hwE,hdb,aE])
   | false =>
    have k2':=of_decide_eq_false k2
    have hxc:=fH (hp.2.2.2.2.2.2.2.2.2 x (aH hr))
    have hN1:=fR x.i (by omega) (by simp only [dX]; omega)
    have hN2:=fR o.day (by omega) (by simp only [dX]; omega)
    have hI1:=eS x.i (by simp only [dX]; omega)
    have hI2:=eS o.day (by simp only [dX]; omega)
    have hE:114 :: (Lib.itoa x.i ++ 32 :: 100 :: Lib.itoa o.day)=l8 x.i o.day:=rfl
    have hu:(D.st (.cons (.int .i64 o.day) (.cons (.sl true 4 (dl Cs.s (o.cs.eraseIdx i))) (.cons (.int .i64 o.kept) (.cons (.int .i64 o.moved) (.cons (.sl true 1 (dl D.str (o.led ++ [l8 x.i o.day]))) .nil)))))).unown=(lJ o i x).s:=by
     unfold lJ
     rw [if_neg k1',if_neg k2']
     simp [Off.s,dU,D.unown,fS,fA]
    have hwE:(D.st (.cons (.int .i64 o.day) (.cons (.sl true 4 (dl Cs.s (o.cs.eraseIdx i))) (.cons (.int .i64 o.kept) (.cons (.int .i64 o.moved) (.cons (.sl true 1 (dl D.str (o.led ++ [l8 x.i o.day]))) .nil))))))=(lJ o i x).w:=by
     unfold lJ
     rw [if_neg k1',if_neg k2']
     rfl
    rintro s' (h|h|h)
    ·refine ⟨_,h,?_⟩
     simp only [aAZ,aF,aI,↓wA,↓wC,wB,cL,cK,a7,a8,bA,reduceIte,reduceCtorEq,aA,bB,dE]
     refine c8 (freeze 2 none [1] (x:=.sl true 4 (dl Cs.s o.cs)) rfl rfl rfl) ?_
     simp only [dY,dU,D.unown,fS,↓wA,↓wC,wB,cL,cK,a7,a8,bA,reduceIte,reduceCtorEq,aA,bB,dE]
     repeat' (first|(simp only [cJ,dQ,cO,cX,cR,hfx,hf0,hf2,hf3,hx0,hx2,hx3,aB,htn,hs1,hs2,happ,hl1,hl2,k1,k2,↓wA,↓wC,wB,cL,cK,a7,a8,bA,reduceIte,reduceCtorEq,aA,bB,dE])|(refine dL ?_)|(with_reducible refine cQ ?_ ?_; focus omega)|(with_reducible refine cP ?_ ?_; focus (simp only [dX]; omega))|((first|apply cG|apply cH|apply cF)<;>intro h<;>try simp only [h]))
     refine eI _ (eZ 2 none [4] (es:=1) (xs:=dl D.str o.led) rfl rfl) fun v2=>?_
     simp only [dY,↓wA,↓wC,wB,cL,cK,a7,a8,bA,reduceIte,reduceCtorEq,aA,bB,dE]
     have happ2:(dl D.str o.led).app (D.cons (.str (l8 x.i o.day)) .nil)=dl D.str (o.led ++ [l8 x.i o.day]):=iJ (f:=D.str) o.led _
     cases hdd:decide (x.d<=o.day) with
     | true =>
      have hdb:eE o x=decide (x.h.length=0):=by simp [eE,of_decide_eq_true hdd,k1',k2']
      cases hh:decide ((x.h.length:Int)=0) with
      | true =>
       have hdb2:eE o x=true:=by rw [hdb]; have:=of_decide_eq_true hh; exact decide_eq_true (by omega)
       repeat' (first|(simp only [cJ,dQ,cO,cX,cR,cY,hfx,hf0,hf2,hf3,hx0,hx2,hx3,k1,k2,hdd,hh,hE,happ2,↓wA,↓wC,wB,cL,cK,a7,a8,bA,reduceIte,reduceCtorEq,aA,bB,dE])|(refine cI (hN1) rfl rfl ?_)|(refine cM (hN1) rfl rfl ?_)|(refine cI (hN2) rfl rfl ?_)|(refine cM (hN2) rfl rfl ?_)|(refine dL ?_)|(with_reducible refine aC ?_ ?_)|(with_reducible refine cQ ?_ ?_; focus omega)|(with_reducible refine cQ ?_ ?_; focus (simp; done))|(with_reducible refine cP ?_ ?_; focus (simp only [dX]; omega))|(refine cI hG (congrArg (fun d:D=>some [d]) hu) rfl ?_)|(refine cM hG (congrArg (fun d:D=>some [d]) hu) rfl ?_)|((first|apply cG|apply cH|apply cF)<;>intro h<;>try simp only [h]))
       all_goals (refine cQ rfl ?_; rw [hwE,hdb2,aJ])
      | false =>
       have hdb2:eE o x=false:=by rw [hdb]; have:=of_decide_eq_false hh; exact decide_eq_false (by omega)
       repeat' (first|(simp only [cJ,dQ,cO,cX,cR,cY,hfx,hf0,hf2,hf3,hx0,hx2,hx3,k1,k2,hdd,hh,hE,happ2,↓wA,↓wC,wB,cL,cK,a7,a8,bA,reduceIte,reduceCtorEq,aA,bB,dE])|(refine cI (hN1) rfl rfl ?_)|(refine cM (hN1) rfl rfl ?_)|(refine cI (hN2) rfl rfl ?_)|(refine cM (hN2) rfl rfl ?_)|(refine dL ?_)|(with_reducible refine aC ?_ ?_)|(with_reducible refine cQ ?_ ?_; focus omega)|(with_reducible refine cQ ?_ ?_; focus (simp; done))|(with_reducible refine cP ?_ ?_; focus (simp only [dX]; omega))|(refine cI hG (congrArg (fun d:D=>some [d]) hu) rfl ?_)|(refine cM hG (congrArg (fun d:D=>some [d]) hu) rfl ?_)|((first|apply cG|apply cH|apply cF)<;>intro h<;>try simp only [h]))
       all_goals (refine cQ rfl ?_; rw [hwE,hdb2,aE])
     | false =>
      have hdb2:eE o x=false:=by simp [eE,of_decide_eq_false hdd]
      repeat' (first|(simp only [cJ,dQ,cO,cX,cR,cY,hfx,hf0,hf2,hf3,hx0,hx2,hx3,k1,k2,hdd,hE,happ2,↓wA,↓wC,wB,cL,cK,a7,a8,bA,reduceIte,reduceCtorEq,aA,bB,dE])|(refine cI (hN1) rfl rfl ?_)|(refine cM (hN1) rfl rfl ?_)|(refine cI (hN2) rfl rfl ?_)|(refine cM (hN2) rfl rfl ?_)|(refine dL ?_)|(with_reducible refine aC ?_ ?_)|(with_reducible refine cQ ?_ ?_; focus omega)|(with_reducible refine cQ ?_ ?_; focus (simp; done))|(with_reducible refine cP ?_ ?_; focus (simp only [dX]; omega))|(refine cI hG (congrArg (fun d:D=>some [d]) hu) rfl ?_)|(refine cM hG (congrArg (fun d:D=>some [d]) hu) rfl ?_)|((first|apply cG|apply cH|apply cF)<;>intro h<;>try simp only [h]))
      all_goals (refine cQ rfl ?_; rw [hwE,hdb2,aE])
    ·refine ⟨_,h,?_⟩
     simp only [aAZ,aF,aI,↓wA,↓wC,wB,cL,cK,a7,a8,bA,reduceIte,reduceCtorEq,aA,bB,dE]
     refine c8 (freeze 3 none [1] (x:=.sl true 4 (dl Cs.s o.cs)) rfl rfl rfl) ?_
     simp only [dY,dU,D.unown,fS,↓wA,↓wC,wB,cL,cK,a7,a8,bA,reduceIte,reduceCtorEq,aA,bB,dE]
     repeat' (first|(simp only [cJ,dQ,cO,cX,cR,hfx,hf0,hf2,hf3,hx0,hx2,hx3,aB,htn,hs1,hs2,happ,hl1,hl2,k1,k2,↓wA,↓wC,wB,cL,cK,a7,a8,bA,reduceIte,reduceCtorEq,aA,bB,dE])|(refine dL ?_)|(with_reducible refine cQ ?_ ?_; focus omega)|(with_reducible refine cP ?_ ?_; focus (simp only [dX]; omega))|((first|apply cG|apply cH|apply cF)<;>intro h<;>try simp only [h]))
     refine eI _ (eZ 3 none [4] (es:=1) (xs:=dl D.str o.led) rfl rfl) fun v2=>?_
     simp only [dY,↓wA,↓wC,wB,cL,cK,a7,a8,bA,reduceIte,reduceCtorEq,aA,bB,dE]
     have happ2:(dl D.str o.led).app (D.cons (.str (l8 x.i o.day)) .nil)=dl D.str (o.led ++ [l8 x.i o.day]):=iJ (f:=D.str) o.led _
     cases hdd:decide (x.d<=o.day) with
     | true =>
      have hdb:eE o x=decide (x.h.length=0):=by simp [eE,of_decide_eq_true hdd,k1',k2']
      cases hh:decide ((x.h.length:Int)=0) with
      | true =>
       have hdb2:eE o x=true:=by rw [hdb]; have:=of_decide_eq_true hh; exact decide_eq_true (by omega)
       repeat' (first|(simp only [cJ,dQ,cO,cX,cR,cY,hfx,hf0,hf2,hf3,hx0,hx2,hx3,k1,k2,hdd,hh,hE,happ2,↓wA,↓wC,wB,cL,cK,a7,a8,bA,reduceIte,reduceCtorEq,aA,bB,dE])|(refine cI (hN1) rfl rfl ?_)|(refine cM (hN1) rfl rfl ?_)|(refine cI (hN2) rfl rfl ?_)|(refine cM (hN2) rfl rfl ?_)|(refine dL ?_)|(with_reducible refine aC ?_ ?_)|(with_reducible refine cQ ?_ ?_; focus omega)|(with_reducible refine cQ ?_ ?_; focus (simp; done))|(with_reducible refine cP ?_ ?_; focus (simp only [dX]; omega))|(refine cI hG (congrArg (fun d:D=>some [d]) hu) rfl ?_)|(refine cM hG (congrArg (fun d:D=>some [d]) hu) rfl ?_)|((first|apply cG|apply cH|apply cF)<;>intro h<;>try simp only [h]))
       all_goals (refine cQ rfl ?_; rw [hwE,hdb2,aJ])
      | false =>
       have hdb2:eE o x=false:=by rw [hdb]; have:=of_decide_eq_false hh; exact decide_eq_false (by omega)
       repeat' (first|(simp only [cJ,dQ,cO,cX,cR,cY,hfx,hf0,hf2,hf3,hx0,hx2,hx3,k1,k2,hdd,hh,hE,happ2,↓wA,↓wC,wB,cL,cK,a7,a8,bA,reduceIte,reduceCtorEq,aA,bB,dE])|(refine cI (hN1) rfl rfl ?_)|(refine cM (hN1) rfl rfl ?_)|(refine cI (hN2) rfl rfl ?_)|(refine cM (hN2) rfl rfl ?_)|(refine dL ?_)|(with_reducible refine aC ?_ ?_)|(with_reducible refine cQ ?_ ?_; focus omega)|(with_reducible refine cQ ?_ ?_; focus (simp; done))|(with_reducible refine cP ?_ ?_; focus (simp only [dX]; omega))|(refine cI hG (congrArg (fun d:D=>some [d]) hu) rfl ?_)|(refine cM hG (congrArg (fun d:D=>some [d]) hu) rfl ?_)|((first|apply cG|apply cH|apply cF)<;>intro h<;>try simp only [h]))
       all_goals (refine cQ rfl ?_; rw [hwE,hdb2,aE])
     | false =>
      have hdb2:eE o x=false:=by simp [eE,of_decide_eq_false hdd]
      repeat' (first|(simp only [cJ,dQ,cO,cX,cR,cY,hfx,hf0,hf2,hf3,hx0,hx2,hx3,k1,k2,hdd,hE,happ2,↓wA,↓wC,wB,cL,cK,a7,a8,bA,reduceIte,reduceCtorEq,aA,bB,dE])|(refine cI (hN1) rfl rfl ?_)|(refine cM (hN1) rfl rfl ?_)|(refine cI (hN2) rfl rfl ?_)|(refine cM (hN2) rfl rfl ?_)|(refine dL ?_)|(with_reducible refine aC ?_ ?_)|(with_reducible refine cQ ?_ ?_; focus omega)|(with_reducible refine cQ ?_ ?_; focus (simp; done))|(with_reducible refine cP ?_ ?_; focus (simp only [dX]; omega))|(refine cI hG (congrArg (fun d:D=>some [d]) hu) rfl ?_)|(refine cM hG (congrArg (fun d:D=>some [d]) hu) rfl ?_)|((first|apply cG|apply cH|apply cF)<;>intro h<;>try simp only [h]))
      all_goals (refine cQ rfl ?_; rw [hwE,hdb2,aE])
    ·refine ⟨_,h,?_⟩
     simp only [aAZ,aF,aI,↓wA,↓wC,wB,cL,cK,a7,a8,bA,reduceIte,reduceCtorEq,aA,bB,dE]
     refine c8 (freeze 4 none [1] (x:=.sl true 4 (dl Cs.s o.cs)) rfl rfl rfl) ?_
     simp only [dY,dU,D.unown,fS,↓wA,↓wC,wB,cL,cK,a7,a8,bA,reduceIte,reduceCtorEq,aA,bB,dE]
     repeat' (first|(simp only [cJ,dQ,cO,cX,cR,hfx,hf0,hf2,hf3,hx0,hx2,hx3,aB,htn,hs1,hs2,happ,hl1,hl2,k1,k2,↓wA,↓wC,wB,cL,cK,a7,a8,bA,reduceIte,reduceCtorEq,aA,bB,dE])|(refine dL ?_)|(with_reducible refine cQ ?_ ?_; focus omega)|(with_reducible refine cP ?_ ?_; focus (simp only [dX]; omega))|((first|apply cG|apply cH|apply cF)<;>intro h<;>try simp only [h]))
     refine eI _ (eZ 4 none [4] (es:=1) (xs:=dl D.str o.led) rfl rfl) fun v2=>?_
     simp only [dY,↓wA,↓wC,wB,cL,cK,a7,a8,bA,reduceIte,reduceCtorEq,aA,bB,dE]
     have happ2:(dl D.str o.led).app (D.cons (.str (l8 x.i o.day)) .nil)=dl D.str (o.led ++ [l8 x.i o.day]):=iJ (f:=D.str) o.led _
     cases hdd:decide (x.d<=o.day) with
     | true =>
      have hdb:eE o x=decide (x.h.length=0):=by simp [eE,of_decide_eq_true hdd,k1',k2']
      cases hh:decide ((x.h.length:Int)=0) with
      | true =>
       have hdb2:eE o x=true:=by rw [hdb]; have:=of_decide_eq_true hh; exact decide_eq_true (by omega)
       repeat' (first|(simp only [cJ,dQ,cO,cX,cR,cY,hfx,hf0,hf2,hf3,hx0,hx2,hx3,k1,k2,hdd,hh,hE,happ2,↓wA,↓wC,wB,cL,cK,a7,a8,bA,reduceIte,reduceCtorEq,aA,bB,dE])|(refine cI (hN1) rfl rfl ?_)|(refine cM (hN1) rfl rfl ?_)|(refine cI (hN2) rfl rfl ?_)|(refine cM (hN2) rfl rfl ?_)|(refine dL ?_)|(with_reducible refine aC ?_ ?_)|(with_reducible refine cQ ?_ ?_; focus omega)|(with_reducible refine cQ ?_ ?_; focus (simp; done))|(with_reducible refine cP ?_ ?_; focus (simp only [dX]; omega))|(refine cI hG (congrArg (fun d:D=>some [d]) hu) rfl ?_)|(refine cM hG (congrArg (fun d:D=>some [d]) hu) rfl ?_)|((first|apply cG|apply cH|apply cF)<;>intro h<;>try simp only [h]))
       all_goals (refine cQ rfl ?_; rw [hwE,hdb2,aJ])
      | false =>
       have hdb2:eE o x=false:=by rw [hdb]; have:=of_decide_eq_false hh; exact decide_eq_false (by omega)
       repeat' (first|(simp only [cJ,dQ,cO,cX,cR,cY,hfx,hf0,hf2,hf3,hx0,hx2,hx3,k1,k2,hdd,hh,hE,happ2,↓wA,↓wC,wB,cL,cK,a7,a8,bA,reduceIte,reduceCtorEq,aA,bB,dE])|(refine cI (hN1) rfl rfl ?_)|(refine cM (hN1) rfl rfl ?_)|(refine cI (hN2) rfl rfl ?_)|(refine cM (hN2) rfl rfl ?_)|(refine dL ?_)|(with_reducible refine aC ?_ ?_)|(with_reducible refine cQ ?_ ?_; focus omega)|(with_reducible refine cQ ?_ ?_; focus (simp; done))|(with_reducible refine cP ?_ ?_; focus (simp only [dX]; omega))|(refine cI hG (congrArg (fun d:D=>some [d]) hu) rfl ?_)|(refine cM hG (congrArg (fun d:D=>some [d]) hu) rfl ?_)|((first|apply cG|apply cH|apply cF)<;>intro h<;>try simp only [h]))
       all_goals (refine cQ rfl ?_; rw [hwE,hdb2,aE])
     | false =>
      have hdb2:eE o x=false:=by simp [eE,of_decide_eq_false hdd]
      repeat' (first|(simp only [cJ,dQ,cO,cX,cR,cY,hfx,hf0,hf2,hf3,hx0,hx2,hx3,k1,k2,hdd,hE,happ2,↓wA,↓wC,wB,cL,cK,a7,a8,bA,reduceIte,reduceCtorEq,aA,bB,dE])|(refine cI (hN1) rfl rfl ?_)|(refine cM (hN1) rfl rfl ?_)|(refine cI (hN2) rfl rfl ?_)|(refine cM (hN2) rfl rfl ?_)|(refine dL ?_)|(with_reducible refine aC ?_ ?_)|(with_reducible refine cQ ?_ ?_; focus omega)|(with_reducible refine cQ ?_ ?_; focus (simp; done))|(with_reducible refine cP ?_ ?_; focus (simp only [dX]; omega))|(refine cI hG (congrArg (fun d:D=>some [d]) hu) rfl ?_)|(refine cM hG (congrArg (fun d:D=>some [d]) hu) rfl ?_)|((first|apply cG|apply cH|apply cF)<;>intro h<;>try simp only [h]))
      all_goals (refine cQ rfl ?_; rw [hwE,hdb2,aE])
def MkR (o:Off) (k id a v:Int) (rs:List D):Prop:=∃ q:Off,rs=[q.w,.bool (wH o k id a v).isSome]/\∀ q',wH o k id a v=some q'->q'=q
theorem aHB {o q:Off} {k id a v:Int} (h:iC o k id a v=some q):wH o k id a v=if dO q=true then some q else none:=by
 unfold wH; rw [h]; rfl
theorem s3 {o q:Off} {k id a v:Int} (h:iC o k id a v=some q) {x:D} {b:Bool} (hx:x=q.w) (hb:b=dO q):MkR o k id a v [x,.bool b]:=by
 have hm:=aHB h
 refine ⟨q,?_,fun q' h'=>?_⟩
 ·rw [hx,hb,hm]
  cases dO q<;>rfl
 ·rw [hm] at h'
  split at h'
  ·injection h' with h'; exact h'.symm
  ·cases h'
theorem aAf {o:Off} {k id a v:Int} (q:Off) (h:iC o k id a v=none) {x:D} (hx:x=q.w):MkR o k id a v [x,.bool false]:=by
 have hm:wH o k id a v=none:=by unfold wH; rw [h]; rfl
 exact ⟨q,by rw [hx,hm]; rfl,fun q' h'=>by rw [hm] at h'; cases h'⟩
theorem aWN (o:Off):o.w.unown=o.s:=by simp [Off.w,Off.s,dU,D.unown,fS,fA]
theorem aWR (o:Off):o.w.noOwn=false:=by simp [Off.w,dU,D.noOwn]
theorem rV {o q:Off} {k id a v:Int} (ho:dO o=true) (h:iC o k id a v=some q):q.ok0:=by
 have hp:=eK ho
 have h0:=fB ho
 have hc:∀ (i:Nat) (x:Cs),o.cs[i]?=some x->gN x=true:=fun i x hr=>hp.2.2.2.2.2.2.2.2.2 x (aH hr)
 unfold iC at h
 split at h
 ·split at h
  ·cases h
  ·injection h with h; subst h; exact h0
 split at h
 ·split at h
  ·cases h
  ·injection h with h
   subst h
   refine ⟨⟨?_,fun x hx=>?_⟩,h0.2⟩
   ·simp [iO]; omega
   ·rcases aT.1 hx with hx|hx
    ·exact h0.1.2 x (List.mem_of_mem_take hx)
    ·rcases List.mem_cons.1 hx with rfl|hx
     ·simp [Cs.ok0]
     ·exact h0.1.2 x (List.mem_of_mem_drop hx)
 split at h
 ·split at h
  ·injection h with h
   subst h
   refine ⟨⟨by simpa using h0.1.1,fun x hx=>?_⟩,h0.2⟩
   obtain ⟨y,hy,rfl⟩:=List.mem_map.1 hx
   exact Nat.le_trans (List.length_filter_le (fun n=>!decide (n=v)) y.h) (h0.1.2 y hy)
  ·cases h
 split at h
 ·rename_i x hr
  have hxc:=fH (hc _ x hr)
  split at h
  ·split at h
   ·cases h
   ·injection h with h
    subst h
    refine ⟨aBk h0.1 ?_,h0.2⟩
    show (kS v x.h).length<=1048576
    rw [aG3]; omega
  ·split at h
   ·split at h
    ·cases h
    ·injection h with h
     subst h
     refine ⟨aBk h0.1 ?_,h0.2⟩
     show x.h.length<=1048576
     omega
   ·split at h
    ·injection h with h
     subst h
     have he:∀ i,o5 (o.cs.eraseIdx i):=fun i=>⟨by have:=aS o.cs i; omega,fun y hy=>h0.1.2 y (aR hy)⟩
     unfold lJ
     split
     ·exact ⟨he _,h0.2⟩
     ·split
      ·exact ⟨he _,h0.2⟩
      ·refine ⟨he _,by simp; omega,fun s hs=>?_⟩
       rcases aT.1 hs with hs|hs
       ·exact h0.2.2 s hs
       ·rw [aV.1 hs]
        have h1:=eS x.i (by simp only [dX]; omega)
        have h2:=eS o.day (by simp only [dX]; omega)
        simp [l8]; omega
    ·cases h
 ·cases h
theorem aNh (o:Off) (id a v:Int) (ho:dO o=true) (hs:m9 o 1 id a v=true):Fn prog 129 [o.s,jZ 1 id a v] (MkR o 1 id a v):=by
 have hk1:decide ((1:Int)=1)=true:=rfl
 have hk2:decide ((1:Int)=2)=false:=rfl
 have hk3:decide ((1:Int)=3)=false:=rfl
 have hk4:decide ((1:Int)=4)=false:=rfl
 have hk5:decide ((1:Int)=5)=false:=rfl
 have hp:=eK ho
 have ho0:=fB ho
 have hO:=j9 o ho0
 have hF:=kU o id ho0
 have hv:1<=v:=by simp [m9] at hs; exact hs.2
 refine cW lF [[1,0],[1,0]] ?_
 dsimp only [lF,cT,c7]
 simp only [jZ]
 repeat' (first|(simp only [aWu,aWw,cJ,↓wA,↓wC,wB,cL,cK,a7,a8,bA,reduceIte,reduceCtorEq,aA,bB,dE])|((first|apply cG|apply cH|apply cF)<;>intro h<;>try simp only [h]))
 refine c8 (gI 0 rfl) ?_
 simp only [cL,cK,aWv,↓wA,↓wC,wB,cL,cK,a7,a8,bA,reduceIte,reduceCtorEq,aA,bB,dE]
 refine c8 (gI 1 rfl) ?_
 simp only [cL,cK,D.unown,↓wA,↓wC,wB,cL,cK,a7,a8,bA,reduceIte,reduceCtorEq,aA,bB,dE]
 have hf0:∀ K:SV->Prop,dG 0 0 (.d (.ptr o.s)) K=K (.d (.ptr (.int .i64 o.day))):=fun K=>by simp [Off.s,dU,dG,D.pre,D.nth,D.size]
 have hf1:∀ K:SV->Prop,dG 1 1 (.d (.ptr o.s)) K=K (.d (.ptr (.sl false 4 (dl Cs.s o.cs)))):=fun K=>by simp [Off.s,dU,dG,D.pre,D.nth]
 cases hd:decide (20000 - o.day < v) with
 | true =>
  have hM:iC o 1 id a v=none:=by unfold iC; rw [if_pos rfl,if_pos (of_decide_eq_true hd)]
  repeat' (first|(simp only [hk1,hk2,hk3,hk4,hk5,aWu,aWw,aWz,Off.w,dU,cX,cR,hf0,hf1,hd,↓dF,cJ,dQ,aB,↓wA,↓wC,wB,cL,cK,a7,a8,bA,reduceIte,reduceCtorEq,aA,bB,dE])|(refine dL ?_)|(with_reducible refine aC ?_ ?_)|(refine cI hO (by simp [dB,dI,aWv]) rfl ?_)|(refine cI hF (by simp [dB,dI]) rfl ?_)|(with_reducible refine cP ?_ ?_; focus (simp only [dX]; omega))|((first|apply cG|apply cH|apply cF)<;>intro h<;>try simp only [h]))
  all_goals exact aAf o hM rfl
 | false =>
  have hM:iC o 1 id a v=some { o with day:=o.day + v }:=by unfold iC; rw [if_pos rfl,if_neg (of_decide_eq_false hd)]
  have hG:=fV _ (rV ho hM)
  have hd':=of_decide_eq_false hd
  have hu:(D.st (.cons (.int .i64 (o.day + v)) (.cons (.sl true 4 (dl Cs.s o.cs)) (.cons (.int .i64 o.kept) (.cons (.int .i64 o.moved) (.cons (.sl true 1 (dl D.str o.led)) .nil)))))).unown=Off.s { o with day:=o.day + v }:=aWN { o with day:=o.day + v }
  repeat' (first|(simp only [hk1,hk2,hk3,hk4,hk5,aWu,aWw,aWz,Off.w,dU,cX,cR,hf0,hf1,hd,↓dF,cJ,dQ,aB,↓wA,↓wC,wB,cL,cK,a7,a8,bA,reduceIte,reduceCtorEq,aA,bB,dE])|(refine dL ?_)|(with_reducible refine aC ?_ ?_)|(refine cI hO (by simp [dB,dI,aWv]) rfl ?_)|(refine cI hF (by simp [dB,dI]) rfl ?_)|(with_reducible refine cP ?_ ?_; focus (simp only [dX]; omega))|(refine cI hG (congrArg (fun d:D=>some [d]) hu) rfl ?_)|(refine cM hG (congrArg (fun d:D=>some [d]) hu) rfl ?_)|((first|apply cG|apply cH|apply cF)<;>intro h<;>try simp only [h]))
  all_goals exact s3 hM rfl rfl
theorem aLK (o:Off) (id a v:Int) (ho:dO o=true) (hs:m9 o 2 id a v=true):Fn prog 129 [o.s,jZ 2 id a v] (MkR o 2 id a v):=by
 have hk1:decide ((2:Int)=1)=false:=rfl
 have hk2:decide ((2:Int)=2)=true:=rfl
 have hk3:decide ((2:Int)=3)=false:=rfl
 have hk4:decide ((2:Int)=4)=false:=rfl
 have hk5:decide ((2:Int)=5)=false:=rfl
 have hp:=eK ho
 have ho0:=fB ho
 have hO:=j9 o ho0
 have hF:=kU o id ho0
 have hv:0<=v:=by simp [m9] at hs; exact hs.2
 refine cW lF [[1,0],[1,0]] ?_
 dsimp only [lF,cT,c7]
 simp only [jZ]
 repeat' (first|(simp only [aWu,aWw,cJ,↓wA,↓wC,wB,cL,cK,a7,a8,bA,reduceIte,reduceCtorEq,aA,bB,dE])|((first|apply cG|apply cH|apply cF)<;>intro h<;>try simp only [h]))
 refine c8 (gI 0 rfl) ?_
 simp only [cL,cK,aWv,↓wA,↓wC,wB,cL,cK,a7,a8,bA,reduceIte,reduceCtorEq,aA,bB,dE]
 refine c8 (gI 1 rfl) ?_
 simp only [cL,cK,D.unown,↓wA,↓wC,wB,cL,cK,a7,a8,bA,reduceIte,reduceCtorEq,aA,bB,dE]
 have hf0:∀ K:SV->Prop,dG 0 0 (.d (.ptr o.s)) K=K (.d (.ptr (.int .i64 o.day))):=fun K=>by simp [Off.s,dU,dG,D.pre,D.nth,D.size]
 have hf1:∀ K:SV->Prop,dG 1 1 (.d (.ptr o.s)) K=K (.d (.ptr (.sl false 4 (dl Cs.s o.cs)))):=fun K=>by simp [Off.s,dU,dG,D.pre,D.nth]
 cases hd:decide (20000 - o.day < v) with
 | true =>
  have hM:iC o 2 id a v=none:=by unfold iC; rw [if_neg (by decide),if_pos rfl,if_pos (of_decide_eq_true hd)]
  repeat' (first|(simp only [hk1,hk2,hk3,hk4,hk5,aWu,aWw,aWz,Off.w,dU,cX,cR,hf0,hf1,hd,↓dF,cJ,dQ,aB,aD,cO,c6,↓wA,↓wC,wB,cL,cK,a7,a8,bA,reduceIte,reduceCtorEq,aA,bB,dE])|(refine dL ?_)|(with_reducible refine aC ?_ ?_)|(refine cI hO (by simp [dB,dI,aWv]) rfl ?_)|(refine cI hF (by simp [dB,dI]) rfl ?_)|(with_reducible refine cP ?_ ?_; focus (simp only [dX]; omega))|((first|apply cG|apply cH|apply cF)<;>intro h<;>try simp only [h]))
  all_goals exact aAf o hM rfl
 | false =>
  have hM:iC o 2 id a v=some { o with cs:=iO ⟨id,a,o.day + v,[]⟩ o.cs }:=by unfold iC; rw [if_neg (by decide),if_pos rfl,if_neg (of_decide_eq_false hd)]
  have hG:=fV _ (rV ho hM)
  have hd':=of_decide_eq_false hd
  have hE:=aGT o 2 id a v ho0 (by simp only [dX]; omega)
  simp only [jZ] at hE
  have hu:(D.st (.cons (.int .i64 o.day) (.cons (.sl true 4 (dl Cs.s (iO ⟨id,a,o.day + v,[]⟩ o.cs))) (.cons (.int .i64 o.kept) (.cons (.int .i64 o.moved) (.cons (.sl true 1 (dl D.str o.led)) .nil)))))).unown=Off.s { o with cs:=iO ⟨id,a,o.day + v,[]⟩ o.cs }:=aWN { o with cs:=iO ⟨id,a,o.day + v,[]⟩ o.cs }
  repeat' (first|(simp only [hk1,hk2,hk3,hk4,hk5,aWu,aWw,aWz,Off.w,dU,cX,cR,hf0,hf1,hd,↓dF,cJ,dQ,aB,aD,cO,c6,↓wA,↓wC,wB,cL,cK,a7,a8,bA,reduceIte,reduceCtorEq,aA,bB,dE])|(refine dL ?_)|(with_reducible refine aC ?_ ?_)|(refine cI hO (by simp [dB,dI,aWv]) rfl ?_)|(refine cI hF (by simp [dB,dI]) rfl ?_)|(with_reducible refine cP ?_ ?_; focus (simp only [dX]; omega))|(refine cI hE (by simp [dB,dI,aWv,D.unown]) rfl ?_)|(refine cI hG (congrArg (fun d:D=>some [d]) hu) rfl ?_)|(refine cM hG (congrArg (fun d:D=>some [d]) hu) rfl ?_)|((first|apply cG|apply cH|apply cF)<;>intro h<;>try simp only [h]))
  all_goals exact s3 hM rfl rfl
theorem aLN (o:Off) (id a v:Int) (ho:dO o=true) (hs:m9 o 4 id a v=true):Fn prog 129 [o.s,jZ 4 id a v] (MkR o 4 id a v):=by
 have hk1:decide ((4:Int)=1)=false:=rfl
 have hk2:decide ((4:Int)=2)=false:=rfl
 have hk3:decide ((4:Int)=3)=false:=rfl
 have hk4:decide ((4:Int)=4)=true:=rfl
 have hk5:decide ((4:Int)=5)=false:=rfl
 have hp:=eK ho
 have ho0:=fB ho
 have hO:=j9 o ho0
 have hF:=kU o id ho0
 have hE:=aDt o v ho0
 have hd:True:=trivial
 cases hc:vU v o.cs with
 | true =>
  have hM:iC o 4 id a v=some { o with cs:=o.cs.map (tU v) }:=by unfold iC; rw [if_neg (by decide),if_neg (by decide),if_pos rfl,if_pos hc]
  have hG:=fV _ (rV ho hM)
  have hu:(D.st (.cons (.int .i64 o.day) (.cons (.sl true 4 (dl Cs.s (o.cs.map (tU v)))) (.cons (.int .i64 o.kept) (.cons (.int .i64 o.moved) (.cons (.sl true 1 (dl D.str o.led)) .nil)))))).unown=Off.s { o with cs:=o.cs.map (tU v) }:=aWN { o with cs:=o.cs.map (tU v) }
  rw [hc] at hE
  refine cW lF [[1,0],[1,0]] ?_
  dsimp only [lF,cT,c7]
  simp only [jZ]
  repeat' (first|(simp only [aWu,aWw,cJ,↓wA,↓wC,wB,cL,cK,a7,a8,bA,reduceIte,reduceCtorEq,aA,bB,dE])|((first|apply cG|apply cH|apply cF)<;>intro h<;>try simp only [h]))
  refine c8 (gI 0 rfl) ?_
  simp only [cL,cK,aWv,↓wA,↓wC,wB,cL,cK,a7,a8,bA,reduceIte,reduceCtorEq,aA,bB,dE]
  refine c8 (gI 1 rfl) ?_
  simp only [cL,cK,D.unown,↓wA,↓wC,wB,cL,cK,a7,a8,bA,reduceIte,reduceCtorEq,aA,bB,dE]
  have hf0:∀ K:SV->Prop,dG 0 0 (.d (.ptr o.s)) K=K (.d (.ptr (.int .i64 o.day))):=fun K=>by simp [Off.s,dU,dG,D.pre,D.nth,D.size]
  have hf1:∀ K:SV->Prop,dG 1 1 (.d (.ptr o.s)) K=K (.d (.ptr (.sl false 4 (dl Cs.s o.cs)))):=fun K=>by simp [Off.s,dU,dG,D.pre,D.nth]
  repeat' (first|(simp only [hk1,hk2,hk3,hk4,hk5,aWu,aWw,aWz,Off.w,dU,cX,cR,hf0,hf1,hd,↓dF,cJ,dQ,aB,aD,cO,c6,↓wA,↓wC,wB,cL,cK,a7,a8,bA,reduceIte,reduceCtorEq,aA,bB,dE])|(refine dL ?_)|(with_reducible refine aC ?_ ?_)|(refine cI hO (by simp [dB,dI,aWv]) rfl ?_)|(refine cI hF (by simp [dB,dI]) rfl ?_)|(with_reducible refine cP ?_ ?_; focus (simp only [dX]; omega))|(refine cI hE (by simp [dB,dI,aWv]) rfl ?_)|(refine cI hG (congrArg (fun d:D=>some [d]) hu) rfl ?_)|(refine cM hG (congrArg (fun d:D=>some [d]) hu) rfl ?_)|((first|apply cG|apply cH|apply cF)<;>intro h<;>try simp only [h]))
  all_goals exact s3 hM rfl rfl
 | false =>
  have hM:iC o 4 id a v=none:=by unfold iC; rw [if_neg (by decide),if_neg (by decide),if_pos rfl,if_neg (by rw [hc]; decide)]
  rw [hc] at hE
  refine cW lF [[1,0],[1,0]] ?_
  dsimp only [lF,cT,c7]
  simp only [jZ]
  repeat' (first|(simp only [aWu,aWw,cJ,↓wA,↓wC,wB,cL,cK,a7,a8,bA,reduceIte,reduceCtorEq,aA,bB,dE])|((first|apply cG|apply cH|apply cF)<;>intro h<;>try simp only [h]))
  refine c8 (gI 0 rfl) ?_
  simp only [cL,cK,aWv,↓wA,↓wC,wB,cL,cK,a7,a8,bA,reduceIte,reduceCtorEq,aA,bB,dE]
  refine c8 (gI 1 rfl) ?_
  simp only [cL,cK,D.unown,↓wA,↓wC,wB,cL,cK,a7,a8,bA,reduceIte,reduceCtorEq,aA,bB,dE]
  have hf0:∀ K:SV->Prop,dG 0 0 (.d (.ptr o.s)) K=K (.d (.ptr (.int .i64 o.day))):=fun K=>by simp [Off.s,dU,dG,D.pre,D.nth,D.size]
  have hf1:∀ K:SV->Prop,dG 1 1 (.d (.ptr o.s)) K=K (.d (.ptr (.sl false 4 (dl Cs.s o.cs)))):=fun K=>by simp [Off.s,dU,dG,D.pre,D.nth,D.size]
  repeat' (first|(simp only [hk1,hk2,hk3,hk4,hk5,aWu,aWw,aWz,Off.w,dU,cX,cR,hf0,hf1,hd,↓dF,cJ,dQ,aB,aD,cO,c6,↓wA,↓wC,wB,cL,cK,a7,a8,bA,reduceIte,reduceCtorEq,aA,bB,dE])|(refine dL ?_)|(with_reducible refine aC ?_ ?_)|(refine cI hO (by simp [dB,dI,aWv]) rfl ?_)|(refine cI hF (by simp [dB,dI,aWv]) rfl ?_)|(with_reducible refine cP ?_ ?_; focus (simp only [dX]; omega))|(refine cI hE (by simp [dB,dI]) rfl ?_)|((first|apply cG|apply cH|apply cF)<;>intro h<;>try simp only [h]))
  all_goals exact aAf { o with cs:=o.cs.map (tU v) } hM rfl
theorem aAv {o:Off} {id:Int} (h:decide (0<=fU o.cs id)=true):∃ (i:Nat) (x:Cs),fU o.cs id=(i:Int)/\o.cs[i]?=some x:=by
 rcases mP o.cs id with ⟨_,hn⟩|⟨i,x,hi,hr,_⟩
 ·rw [hn] at h; cases h
 ·exact ⟨i,x,hi,hr⟩
theorem aMH (o:Off) (id a v:Int) (ho:dO o=true) (hs:m9 o 6 id a v=true):Fn prog 129 [o.s,jZ 6 id a v] (MkR o 6 id a v):=by
 have hk1:decide ((6:Int)=1)=false:=rfl
 have hk2:decide ((6:Int)=2)=false:=rfl
 have hk3:decide ((6:Int)=3)=false:=rfl
 have hk4:decide ((6:Int)=4)=false:=rfl
 have hk5:decide ((6:Int)=5)=false:=rfl
 have hp:=eK ho
 have ho0:=fB ho
 have hO:=j9 o ho0
 have hF:=kU o id ho0
 have hd:True:=trivial
 obtain ⟨i,x,hi,hr⟩:=aAv (o:=o) (id:=id) (by simp [m9] at hs; exact decide_eq_true hs.1.1)
 have hE:=aJ8 o i x ho hr
 rw [hi] at hF
 have hM0:iC o 6 id a v=if eE o x=true then some (lJ o i x) else none:=by
  unfold iC
  rw [if_neg (by decide),if_neg (by decide),if_neg (by decide),hi,aB,hr]
  simp
 have hwu:=aWN (lJ o i x)
 have hwV:∀ q:Off,q.w.isV=true:=fun _=>rfl
 have hwS:∀ q:Off,q.w.size=5:=fun _=>rfl
 have hwN:=aWR
 have hwB:∀ q:Off,q.w.isStB=true:=fun _=>rfl
 generalize hq:lJ o i x=q at hE hM0 hwu
 cases hc:eE o x with
 | true =>
  have hM:iC o 6 id a v=some q:=by rw [hM0,if_pos hc]
  have hG:=fV _ (rV ho hM)
  rw [hc,aJ] at hE
  cases hk:dO q with
  | true =>
   rw [hk] at hE hG
   refine cW lF [[1,0],[1,0]] ?_
   dsimp only [lF,cT,c7]
   simp only [jZ]
   repeat' (first|(simp only [aWu,aWw,cJ,↓wA,↓wC,wB,cL,cK,a7,a8,bA,reduceIte,reduceCtorEq,aA,bB,dE])|((first|apply cG|apply cH|apply cF)<;>intro h<;>try simp only [h]))
   refine c8 (gI 0 rfl) ?_
   simp only [cL,cK,aWv,↓wA,↓wC,wB,cL,cK,a7,a8,bA,reduceIte,reduceCtorEq,aA,bB,dE]
   refine c8 (gI 1 rfl) ?_
   simp only [cL,cK,D.unown,↓wA,↓wC,wB,cL,cK,a7,a8,bA,reduceIte,reduceCtorEq,aA,bB,dE]
   have hf0:∀ K:SV->Prop,dG 0 0 (.d (.ptr o.s)) K=K (.d (.ptr (.int .i64 o.day))):=fun K=>by simp [Off.s,dU,dG,D.pre,D.nth,D.size]
   have hf1:∀ K:SV->Prop,dG 1 1 (.d (.ptr o.s)) K=K (.d (.ptr (.sl false 4 (dl Cs.s o.cs)))):=fun K=>by simp [Off.s,dU,dG,D.pre,D.nth]
   repeat' (first|(simp only [hwV,hwS,hwN,hwB,hk1,hk2,hk3,hk4,hk5,aWu,aWw,aWz,cX,cR,hf0,hf1,hd,↓dF,cJ,dQ,aB,aD,cO,c6,↓wA,↓wC,wB,cL,cK,a7,a8,bA,reduceIte,reduceCtorEq,aA,bB,dE])|(refine dL ?_)|(with_reducible refine aC ?_ ?_)|(refine cI hO (by simp [dB,dI,aWv]) rfl ?_)|(refine cI hF (by simp [dB,dI]) rfl ?_)|(with_reducible refine cP ?_ ?_; focus (simp only [dX]; omega))|(refine cI hE (by simp [dB,dI,aWv]) rfl ?_)|(refine cI hG (congrArg (fun d:D=>some [d]) hwu) rfl ?_)|(refine cM hG (congrArg (fun d:D=>some [d]) hwu) rfl ?_)|((first|apply cG|apply cH|apply cF)<;>intro h<;>try simp only [h]))
   all_goals exact fD _ rfl (cQ rfl (cQ rfl (cQ rfl (s3 hM rfl hk.symm))))
  | false =>
   rw [hk] at hE hG
   refine cW lF [[1,0],[1,0]] ?_
   dsimp only [lF,cT,c7]
   simp only [jZ]
   repeat' (first|(simp only [aWu,aWw,cJ,↓wA,↓wC,wB,cL,cK,a7,a8,bA,reduceIte,reduceCtorEq,aA,bB,dE])|((first|apply cG|apply cH|apply cF)<;>intro h<;>try simp only [h]))
   refine c8 (gI 0 rfl) ?_
   simp only [cL,cK,aWv,↓wA,↓wC,wB,cL,cK,a7,a8,bA,reduceIte,reduceCtorEq,aA,bB,dE]
   refine c8 (gI 1 rfl) ?_
   simp only [cL,cK,D.unown,↓wA,↓wC,wB,cL,cK,a7,a8,bA,reduceIte,reduceCtorEq,aA,bB,dE]
   have hf0:∀ K:SV->Prop,dG 0 0 (.d (.ptr o.s)) K=K (.d (.ptr (.int .i64 o.day))):=fun K=>by simp [Off.s,dU,dG,D.pre,D.nth,D.size]
   have hf1:∀ K:SV->Prop,dG 1 1 (.d (.ptr o.s)) K=K (.d (.ptr (.sl false 4 (dl Cs.s o.cs)))):=fun K=>by simp [Off.s,dU,dG,D.pre,D.nth,D.size]
   repeat' (first|(simp only [hwV,hwS,hwN,hwB,hk1,hk2,hk3,hk4,hk5,aWu,aWw,aWz,cX,cR,hf0,hf1,hd,↓dF,cJ,dQ,aB,aD,cO,c6,↓wA,↓wC,wB,cL,cK,a7,a8,bA,reduceIte,reduceCtorEq,aA,bB,dE])|(refine dL ?_)|(with_reducible refine aC ?_ ?_)|(refine cI hO (by simp [dB,dI,aWv]) rfl ?_)|(refine cI hF (by simp [dB,dI,aWv]) rfl ?_)|(with_reducible refine cP ?_ ?_; focus (simp only [dX]; omega))|(refine cI hE (by simp [dB,dI]) rfl ?_)|((first|apply cG|apply cH|apply cF)<;>intro h<;>try simp only [h]))
   all_goals exact fD _ rfl (cQ rfl (cQ rfl (cQ rfl (s3 hM rfl hk.symm))))
 | false =>
  have hM:iC o 6 id a v=none:=by rw [hM0,if_neg (by rw [hc]; decide)]
  rw [hc,aE] at hE
  refine cW lF [[1,0],[1,0]] ?_
  dsimp only [lF,cT,c7]
  simp only [jZ]
  repeat' (first|(simp only [aWu,aWw,cJ,↓wA,↓wC,wB,cL,cK,a7,a8,bA,reduceIte,reduceCtorEq,aA,bB,dE])|((first|apply cG|apply cH|apply cF)<;>intro h<;>try simp only [h]))
  refine c8 (gI 0 rfl) ?_
  simp only [cL,cK,aWv,↓wA,↓wC,wB,cL,cK,a7,a8,bA,reduceIte,reduceCtorEq,aA,bB,dE]
  refine c8 (gI 1 rfl) ?_
  simp only [cL,cK,D.unown,↓wA,↓wC,wB,cL,cK,a7,a8,bA,reduceIte,reduceCtorEq,aA,bB,dE]
  have hf0:∀ K:SV->Prop,dG 0 0 (.d (.ptr o.s)) K=K (.d (.ptr (.int .i64 o.day))):=fun K=>by simp [Off.s,dU,dG,D.pre,D.nth,D.size]
  have hf1:∀ K:SV->Prop,dG 1 1 (.d (.ptr o.s)) K=K (.d (.ptr (.sl false 4 (dl Cs.s o.cs)))):=fun K=>by simp [Off.s,dU,dG,D.pre,D.nth,D.size]
  repeat' (first|(simp only [hwV,hwS,hwN,hwB,hk1,hk2,hk3,hk4,hk5,aWu,aWw,aWz,cX,cR,hf0,hf1,hd,↓dF,cJ,dQ,aB,aD,cO,c6,↓wA,↓wC,wB,cL,cK,a7,a8,bA,reduceIte,reduceCtorEq,aA,bB,dE])|(refine dL ?_)|(with_reducible refine aC ?_ ?_)|(refine cI hO (by simp [dB,dI,aWv]) rfl ?_)|(refine cI hF (by simp [dB,dI,aWv]) rfl ?_)|(with_reducible refine cP ?_ ?_; focus (simp only [dX]; omega))|(refine cI hE (by simp [dB,dI]) rfl ?_)|((first|apply cG|apply cH|apply cF)<;>intro h<;>try simp only [h]))
  all_goals exact fD _ rfl (cQ rfl (cQ rfl (cQ rfl (aAf q hM rfl))))
theorem aMj (o:Off) (id a v:Int) (ho:dO o=true) (hs:m9 o 3 id a v=true):Fn prog 129 [o.s,jZ 3 id a v] (MkR o 3 id a v):=by
 have hk1:decide ((3:Int)=1)=false:=rfl
 have hk2:decide ((3:Int)=2)=false:=rfl
 have hk3:decide ((3:Int)=3)=true:=rfl
 have hk4:decide ((3:Int)=4)=false:=rfl
 have hk5:decide ((3:Int)=5)=false:=rfl
 have hp:=eK ho
 have ho0:=fB ho
 have hO:=j9 o ho0
 have hF:=kU o id ho0
 have hd:True:=trivial
 obtain ⟨i,x,hi,hr⟩:=aAv (o:=o) (id:=id) (by simp [m9] at hs; exact decide_eq_true hs.1.1)
 have hxc:=fH (hp.2.2.2.2.2.2.2.2.2 x (aH hr))
 have hH:=aFY x.h v (by omega)
 have hi0:(0:Int)<=(i:Int):=by omega
 rw [hi] at hF
 have hM0:iC o 3 id a v=if x.h.contains v=true then none else some { o with cs:=o.cs.set i { x with h:=kS v x.h } }:=by
  unfold iC
  rw [if_neg (by decide),if_neg (by decide),if_neg (by decide),hi,aB,hr]
  simp
 have hgn:(dl Cs.s o.cs).nth i=some (x.p (.sl false 1 (dl iD x.h))):=by rw [c6,hr]; rfl
 have hgs:∀ (y:D),((dl Cs.s o.cs).setN i y).nth i=some y:=fun y=>by rw [oD,if_pos rfl,hgn]; rfl
 have hfx:∀ K:SV->Prop,dG 3 3 (.d (.ptr x.s)) K=K (.d (.ptr (.sl false 1 (dl iD x.h)))):=fun K=>uE
 cases hc:x.h.contains v with
 | true =>
  rw [hc] at hH
  have hM:iC o 3 id a v=none:=by rw [hM0,if_pos hc]
  refine cW lF [[1,0],[1,0]] ?_
  dsimp only [lF,cT,c7]
  simp only [jZ]
  repeat' (first|(simp only [aWu,aWw,cJ,↓wA,↓wC,wB,cL,cK,a7,a8,bA,reduceIte,reduceCtorEq,aA,bB,dE])|((first|apply cG|apply cH|apply cF)<;>intro h<;>try simp only [h]))
  refine c8 (gI 0 rfl) ?_
  simp only [cL,cK,aWv,↓wA,↓wC,wB,cL,cK,a7,a8,bA,reduceIte,reduceCtorEq,aA,bB,dE]
  refine c8 (gI 1 rfl) ?_
  simp only [cL,cK,D.unown,↓wA,↓wC,wB,cL,cK,a7,a8,bA,reduceIte,reduceCtorEq,aA,bB,dE]
  have hf0:∀ K:SV->Prop,dG 0 0 (.d (.ptr o.s)) K=K (.d (.ptr (.int .i64 o.day))):=fun K=>by simp [Off.s,dU,dG,D.pre,D.nth,D.size]
  have hf1:∀ K:SV->Prop,dG 1 1 (.d (.ptr o.s)) K=K (.d (.ptr (.sl false 4 (dl Cs.s o.cs)))):=fun K=>by simp [Off.s,dU,dG,D.pre,D.nth]
  repeat' (first|(simp only [hk1,hk2,hk3,hk4,hk5,aWu,aWw,aWz,Off.w,dU,cX,cR,hf0,hf1,hd,↓dF,cJ,dQ,aB,aD,cO,c6,hi0,hr,hfx,cY,↓wA,↓wC,wB,cL,cK,a7,a8,bA,reduceIte,reduceCtorEq,aA,bB,dE])|(refine dL ?_)|(with_reducible refine aC ?_ ?_)|(refine cI hO (by simp [dB,dI,aWv]) rfl ?_)|(refine cI hF (by simp [dB,dI]) rfl ?_)|(with_reducible refine cP ?_ ?_; focus (simp only [dX]; omega))|(refine cI (hH) rfl rfl ?_)|(refine cM (hH) rfl rfl ?_)|((first|apply cG|apply cH|apply cF)<;>intro h<;>try simp only [h]))
  all_goals exact aAf o hM rfl
 | false =>
  rw [hc] at hH
  have hM:iC o 3 id a v=some { o with cs:=o.cs.set i { x with h:=kS v x.h } }:=by rw [hM0,if_neg (by rw [hc]; decide)]
  have hG:=fV _ (rV ho hM)
  have hnv:v ∉ x.h:=fun h=>by rw [List.contains_iff_mem.2 h] at hc; cases hc
  have hP:Fn prog 169 [.sl false 1 (dl iD x.h),.int .i64 v] (fun rs=>rs=[.sl false 1 (dl iD (kS v x.h))]):=by
   simpa [D.unown,dM] using fY (aMw x.h v (by omega) hnv)
  have hset:(dl Cs.s o.cs).setN i (x.p (.sl false 1 (dl iD (kS v x.h))))=dl Cs.s (o.cs.set i { x with h:=kS v x.h }):=by
   have e:x.p (.sl false 1 (dl iD (kS v x.h)))=Cs.s { x with h:=kS v x.h }:=rfl
   rw [e,gV]
  have hu:(D.st (.cons (.int .i64 o.day) (.cons (.sl true 4 (dl Cs.s (o.cs.set i { x with h:=kS v x.h }))) (.cons (.int .i64 o.kept) (.cons (.int .i64 o.moved) (.cons (.sl true 1 (dl D.str o.led)) .nil)))))).unown=Off.s { o with cs:=o.cs.set i { x with h:=kS v x.h } }:=aWN { o with cs:=o.cs.set i { x with h:=kS v x.h } }
  refine cW lF [[1,1,1,0,1,0,1,1,1,1,1,0,1],[1,1,1,1,0],[1,0],[1,0]] ?_
  dsimp only [lF,cT,c7]
  simp only [jZ]
  repeat' (first|(simp only [aWu,aWw,cJ,↓wA,↓wC,wB,cL,cK,a7,a8,bA,reduceIte,reduceCtorEq,aA,bB,dE])|((first|apply cG|apply cH|apply cF)<;>intro h<;>try simp only [h]))
  refine c8 (gI 0 rfl) ?_
  simp only [cL,cK,aWv,↓wA,↓wC,wB,cL,cK,a7,a8,bA,reduceIte,reduceCtorEq,aA,bB,dE]
  refine c8 (gI 1 rfl) ?_
  simp only [cL,cK,D.unown,↓wA,↓wC,wB,cL,cK,a7,a8,bA,reduceIte,reduceCtorEq,aA,bB,dE]
  have hf0:∀ K:SV->Prop,dG 0 0 (.d (.ptr o.s)) K=K (.d (.ptr (.int .i64 o.day))):=fun K=>by simp [Off.s,dU,dG,D.pre,D.nth,D.size]
  have hf1:∀ K:SV->Prop,dG 1 1 (.d (.ptr o.s)) K=K (.d (.ptr (.sl false 4 (dl Cs.s o.cs)))):=fun K=>by simp [Off.s,dU,dG,D.pre,D.nth,D.size]
  repeat' (first|(simp only [hk1,hk2,hk3,hk4,hk5,aWu,aWw,aWz,Off.w,dU,cX,cR,hf0,hf1,hd,↓dF,cJ,dQ,aB,aD,cO,c6,hi0,hr,hfx,cY,↓wA,↓wC,wB,cL,cK,a7,a8,bA,reduceIte,reduceCtorEq,aA,bB,dE])|(refine dL ?_)|(with_reducible refine aC ?_ ?_)|(refine cI hO (by simp [dB,dI,aWv]) rfl ?_)|(refine cI hF (by simp [dB,dI,aWv]) rfl ?_)|(with_reducible refine cP ?_ ?_; focus (simp only [dX]; omega))|(refine cI (hH) rfl rfl ?_)|(refine cM (hH) rfl rfl ?_)|((first|apply cG|apply cH|apply cF)<;>intro h<;>try simp only [h]))
  refine eI _ (eZ 4 none [1] (es:=4) (xs:=dl Cs.s o.cs) rfl rfl) fun v1=>?_
  simp only [dY,↓wA,↓wC,wB,cL,cK,a7,a8,bA,reduceIte,reduceCtorEq,aA,bB,dE]
  repeat' (first|(simp only [hk1,hk2,hk3,hk4,hk5,aWu,aWw,aWz,Off.w,dU,cX,cR,hf0,hf1,hd,↓dF,cJ,dQ,aB,aD,cO,hi0,hgn,hgs,cY,fM,eJ,eQ,hset,↓wA,↓wC,wB,cL,cK,a7,a8,bA,reduceIte,reduceCtorEq,aA,bB,dE])|(refine dL ?_)|(with_reducible refine aC ?_ ?_)|(refine cI hO (by simp [dB,dI,aWv]) rfl ?_)|(refine cI hF (by simp [dB,dI,aWv]) rfl ?_)|(with_reducible refine cP ?_ ?_; focus (simp only [dX]; omega))|(refine cI (hP) rfl rfl ?_)|(refine cM (hP) rfl rfl ?_)|((first|apply cG|apply cH|apply cF)<;>intro h<;>try simp only [h]))
  refine c8 (gA 4 6 5 none [1] rfl rfl rfl rfl (by decide) rfl) ?_
  simp only [dY,↓wA,↓wC,wB,cL,cK,a7,a8,bA,reduceIte,reduceCtorEq,aA,bB,dE]
  repeat' (first|(simp only [hk1,hk2,hk3,hk4,hk5,aWu,aWw,aWz,Off.w,dU,cX,cR,hf0,hf1,hd,↓dF,cJ,dQ,aB,aD,cO,↓wA,↓wC,wB,cL,cK,a7,a8,bA,reduceIte,reduceCtorEq,aA,bB,dE])|(refine dL ?_)|(with_reducible refine aC ?_ ?_)|(refine cI hO (by simp [dB,dI,aWv]) rfl ?_)|(refine cI hF (by simp [dB,dI,aWv]) rfl ?_)|(with_reducible refine cP ?_ ?_; focus (simp only [dX]; omega))|(refine cI hG (congrArg (fun d:D=>some [d]) hu) rfl ?_)|(refine cM hG (congrArg (fun d:D=>some [d]) hu) rfl ?_)|((first|apply cG|apply cH|apply cF)<;>intro h<;>try simp only [h]))
  all_goals exact s3 hM rfl rfl
theorem aMU (o:Off) (id a v:Int) (ho:dO o=true) (hs:m9 o 5 id a v=true):Fn prog 129 [o.s,jZ 5 id a v] (MkR o 5 id a v):=by
 have hk1:decide ((5:Int)=1)=false:=rfl
 have hk2:decide ((5:Int)=2)=false:=rfl
 have hk3:decide ((5:Int)=3)=false:=rfl
 have hk4:decide ((5:Int)=4)=false:=rfl
 have hk5:decide ((5:Int)=5)=true:=rfl
 have hp:=eK ho
 have ho0:=fB ho
 have hO:=j9 o ho0
 have hF:=kU o id ho0
 have hv:1<=v:=by simp [m9] at hs; exact hs.2
 obtain ⟨i,x,hi,hr⟩:=aAv (o:=o) (id:=id) (by simp [m9] at hs; exact decide_eq_true hs.1.1)
 have hxc:=fH (hp.2.2.2.2.2.2.2.2.2 x (aH hr))
 have hi0:(0:Int)<=(i:Int):=by omega
 rw [hi] at hF
 have hM0:iC o 5 id a v=if v > 20000 - x.d then none else some { o with cs:=o.cs.set i { x with d:=x.d + v } }:=by
  unfold iC
  rw [if_neg (by decide),if_neg (by decide),if_neg (by decide),hi,aB,hr]
  simp
 have hgn:(dl Cs.s o.cs).nth i=some (x.p (.sl false 1 (dl iD x.h))):=by rw [c6,hr]; rfl
 have hgs:∀ (y:D),((dl Cs.s o.cs).setN i y).nth i=some y:=fun y=>by rw [oD,if_pos rfl,hgn]; rfl
 have hfx:∀ K:SV->Prop,dG 2 2 (.d (.ptr x.s)) K=K (.d (.ptr (.int .i64 x.d))):=fun K=>sX
 have hfx':∀ K:SV->Prop,dG 2 2 (.d (.ptr (x.p (.sl false 1 (dl iD x.h))))) K=K (.d (.ptr (.int .i64 x.d))):=fun K=>sX
 cases hd:decide (20000 - x.d < v) with
 | true =>
  have hM:iC o 5 id a v=none:=by rw [hM0,if_pos (of_decide_eq_true hd)]
  refine cW lF [[1,0],[1,0]] ?_
  dsimp only [lF,cT,c7]
  simp only [jZ]
  repeat' (first|(simp only [aWu,aWw,cJ,↓wA,↓wC,wB,cL,cK,a7,a8,bA,reduceIte,reduceCtorEq,aA,bB,dE])|((first|apply cG|apply cH|apply cF)<;>intro h<;>try simp only [h]))
  refine c8 (gI 0 rfl) ?_
  simp only [cL,cK,aWv,↓wA,↓wC,wB,cL,cK,a7,a8,bA,reduceIte,reduceCtorEq,aA,bB,dE]
  refine c8 (gI 1 rfl) ?_
  simp only [cL,cK,D.unown,↓wA,↓wC,wB,cL,cK,a7,a8,bA,reduceIte,reduceCtorEq,aA,bB,dE]
  have hf0:∀ K:SV->Prop,dG 0 0 (.d (.ptr o.s)) K=K (.d (.ptr (.int .i64 o.day))):=fun K=>by simp [Off.s,dU,dG,D.pre,D.nth,D.size]
  have hf1:∀ K:SV->Prop,dG 1 1 (.d (.ptr o.s)) K=K (.d (.ptr (.sl false 4 (dl Cs.s o.cs)))):=fun K=>by simp [Off.s,dU,dG,D.pre,D.nth]
  repeat' (first|(simp only [hk1,hk2,hk3,hk4,hk5,aWu,aWw,aWz,Off.w,dU,cX,cR,hf0,hf1,hd,↓dF,cJ,dQ,aB,aD,cO,c6,hi0,hr,hfx,cY,↓wA,↓wC,wB,cL,cK,a7,a8,bA,reduceIte,reduceCtorEq,aA,bB,dE])|(refine dL ?_)|(with_reducible refine aC ?_ ?_)|(refine cI hO (by simp [dB,dI,aWv]) rfl ?_)|(refine cI hF (by simp [dB,dI]) rfl ?_)|(with_reducible refine cP ?_ ?_; focus (simp only [dX]; omega))|((first|apply cG|apply cH|apply cF)<;>intro h<;>try simp only [h]))
  all_goals exact aAf o hM rfl
 | false =>
  have hd':=of_decide_eq_false hd
  have hM:iC o 5 id a v=some { o with cs:=o.cs.set i { x with d:=x.d + v } }:=by rw [hM0,if_neg (of_decide_eq_false hd)]
  have hG:=fV _ (rV ho hM)
  have hset:(dl Cs.s o.cs).setN i (Cs.p { x with d:=x.d + v } (.sl false 1 (dl iD x.h)))=dl Cs.s (o.cs.set i { x with d:=x.d + v }):=by
   have e:Cs.p { x with d:=x.d + v } (.sl false 1 (dl iD x.h))=Cs.s { x with d:=x.d + v }:=rfl
   rw [e,gV]
  have hu:(D.st (.cons (.int .i64 o.day) (.cons (.sl true 4 (dl Cs.s (o.cs.set i { x with d:=x.d + v }))) (.cons (.int .i64 o.kept) (.cons (.int .i64 o.moved) (.cons (.sl true 1 (dl D.str o.led)) .nil)))))).unown=Off.s { o with cs:=o.cs.set i { x with d:=x.d + v } }:=aWN { o with cs:=o.cs.set i { x with d:=x.d + v } }
  refine cW lF [[1,1,1,0,1,0,1,1,1,1,1,1,1,1,1,0,1],[1,1,1,1,0],[1,0],[1,0]] ?_
  dsimp only [lF,cT,c7]
  simp only [jZ]
  repeat' (first|(simp only [aWu,aWw,cJ,↓wA,↓wC,wB,cL,cK,a7,a8,bA,reduceIte,reduceCtorEq,aA,bB,dE])|((first|apply cG|apply cH|apply cF)<;>intro h<;>try simp only [h]))
  refine c8 (gI 0 rfl) ?_
  simp only [cL,cK,aWv,↓wA,↓wC,wB,cL,cK,a7,a8,bA,reduceIte,reduceCtorEq,aA,bB,dE]
  refine c8 (gI 1 rfl) ?_
  simp only [cL,cK,D.unown,↓wA,↓wC,wB,cL,cK,a7,a8,bA,reduceIte,reduceCtorEq,aA,bB,dE]
  have hf0:∀ K:SV->Prop,dG 0 0 (.d (.ptr o.s)) K=K (.d (.ptr (.int .i64 o.day))):=fun K=>by simp [Off.s,dU,dG,D.pre,D.nth,D.size]
  have hf1:∀ K:SV->Prop,dG 1 1 (.d (.ptr o.s)) K=K (.d (.ptr (.sl false 4 (dl Cs.s o.cs)))):=fun K=>by simp [Off.s,dU,dG,D.pre,D.nth,D.size]
  repeat' (first|(simp only [hk1,hk2,hk3,hk4,hk5,aWu,aWw,aWz,Off.w,dU,cX,cR,hf0,hf1,hd,↓dF,cJ,dQ,aB,aD,cO,c6,hi0,hr,hfx,cY,↓wA,↓wC,wB,cL,cK,a7,a8,bA,reduceIte,reduceCtorEq,aA,bB,dE])|(refine dL ?_)|(with_reducible refine aC ?_ ?_)|(refine cI hO (by simp [dB,dI,aWv]) rfl ?_)|(refine cI hF (by simp [dB,dI,aWv]) rfl ?_)|(with_reducible refine cP ?_ ?_; focus (simp only [dX]; omega))|((first|apply cG|apply cH|apply cF)<;>intro h<;>try simp only [h]))
  refine eI _ (eZ 4 none [1] (es:=4) (xs:=dl Cs.s o.cs) rfl rfl) fun v1=>?_
  simp only [dY,↓wA,↓wC,wB,cL,cK,a7,a8,bA,reduceIte,reduceCtorEq,aA,bB,dE]
  repeat' (first|(simp only [hk1,hk2,hk3,hk4,hk5,aWu,aWw,aWz,Off.w,dU,cX,cR,hf0,hf1,hd,↓dF,cJ,dQ,aB,aD,cO,hi0,hr,hfx,hfx',hgn,hgs,cY,jK,jI,jF,hset,↓wA,↓wC,wB,cL,cK,a7,a8,bA,reduceIte,reduceCtorEq,aA,bB,dE])|(refine dL ?_)|(with_reducible refine aC ?_ ?_)|(refine cI hO (by simp [dB,dI,aWv]) rfl ?_)|(refine cI hF (by simp [dB,dI,aWv]) rfl ?_)|(with_reducible refine cP ?_ ?_; focus (simp only [dX]; omega))|((first|apply cG|apply cH|apply cF)<;>intro h<;>try simp only [h]))
  refine c8 (gA 4 6 5 none [1] rfl rfl rfl rfl (by decide) rfl) ?_
  simp only [dY,↓wA,↓wC,wB,cL,cK,a7,a8,bA,reduceIte,reduceCtorEq,aA,bB,dE]
  repeat' (first|(simp only [hk1,hk2,hk3,hk4,hk5,aWu,aWw,aWz,Off.w,dU,cX,cR,hf0,hf1,hd,↓dF,cJ,dQ,aB,aD,cO,↓wA,↓wC,wB,cL,cK,a7,a8,bA,reduceIte,reduceCtorEq,aA,bB,dE])|(refine dL ?_)|(with_reducible refine aC ?_ ?_)|(refine cI hO (by simp [dB,dI,aWv]) rfl ?_)|(refine cI hF (by simp [dB,dI,aWv]) rfl ?_)|(with_reducible refine cP ?_ ?_; focus (simp only [dX]; omega))|(refine cI hG (congrArg (fun d:D=>some [d]) hu) rfl ?_)|(refine cM hG (congrArg (fun d:D=>some [d]) hu) rfl ?_)|((first|apply cG|apply cH|apply cF)<;>intro h<;>try simp only [h]))
  all_goals exact s3 hM rfl rfl
theorem aH6 (o:Off) (k id a v:Int) (ho:dO o=true) (hs:m9 o k id a v=true):Fn prog 129 [o.s,jZ k id a v] (MkR o k id a v):=by
 by_cases h1:k=1
 ·subst h1; exact aNh o id a v ho hs
 by_cases h2:k=2
 ·subst h2; exact aLK o id a v ho hs
 by_cases h3:k=3
 ·subst h3; exact aMj o id a v ho hs
 by_cases h4:k=4
 ·subst h4; exact aLN o id a v ho hs
 by_cases h5:k=5
 ·subst h5; exact aMU o id a v ho hs
 have h6:k=6:=by
  unfold m9 at hs
  rw [if_neg h1,if_neg h2,if_neg h3,if_neg h4,if_neg h5] at hs
  simp only [aG,decide_eq_true_eq] at hs
  exact hs.1.1.1
 subst h6; exact aMH o id a v ho hs
def uW (o:Off) (k id a v:Int):Off:=(gY o k id a v).getD aDr
def uV (o:Off) (k id a v:Int):Bool:=(gY o k id a v).isSome
theorem aEZ (o:Off) (k id a v:Int) (ho:o.ok0):Fn prog 96 [o.s,jZ k id a v] (fun rs=>rs=[(uW o k id a v).w,.bool (uV o k id a v)]):=by
 have hG:=fV o ho
 have hS:=aIR o k id a v ho
 have hE:=aNg o k id a v
 cases hv:dO o with
 | false =>
  have hR:gY o k id a v=none:=by rw [<- hE]; unfold aGj; rw [hv]; rfl
  rw [hv] at hG
  have hX:uW o k id a v=aDr:=by unfold uW; rw [hR]; rfl
  have hY:uV o k id a v=false:=by unfold uV; rw [hR]; rfl
  rw [hX,hY]
  refine cW aJ0 [] ?_
  dsimp only [aJ0,cT,c7]
  simp only [jZ]
  repeat' (first|(simp only [aWu,aWw,aWz,↓dF,cJ,↓wA,↓wC,wB,cL,cK,a7,a8,bA,reduceIte,reduceCtorEq,aA,bB,dE])|(refine cI hG (by simp [dB,dI,aWv]) rfl ?_)|((first|apply cG|apply cH|apply cF)<;>intro h<;>try simp only [h]))
  all_goals rfl
 | true =>
  rw [hv] at hG
  cases hb:m9 o k id a v with
  | false =>
   have hR:gY o k id a v=none:=by rw [<- hE]; unfold aGj; rw [hv,hb]; rfl
   rw [hb] at hS
   have hX:uW o k id a v=aDr:=by unfold uW; rw [hR]; rfl
   have hY:uV o k id a v=false:=by unfold uV; rw [hR]; rfl
   rw [hX,hY]
   refine cW aJ0 [] ?_
   dsimp only [aJ0,cT,c7]
   simp only [jZ] at hS ⊢
   repeat' (first|(simp only [aWu,aWw,aWz,↓dF,cJ,↓wA,↓wC,wB,cL,cK,a7,a8,bA,reduceIte,reduceCtorEq,aA,bB,dE])|(refine cI hG (by simp [dB,dI,aWv]) rfl ?_)|(refine cI hS (by simp [dB,dI,aWv]) rfl ?_)|((first|apply cG|apply cH|apply cF)<;>intro h<;>try simp only [h]))
   all_goals rfl
  | true =>
   have hR:gY o k id a v=wH o k id a v:=by rw [<- hE]; unfold aGj; rw [hv,hb]; rfl
   rw [hb] at hS
   have hM:=aH6 o k id a v hv hb
   refine cW aJ0 [] ?_
   dsimp only [aJ0,cT,c7]
   simp only [jZ] at hS hM ⊢
   repeat' (first|(simp only [aWu,aWw,aWz,↓dF,cJ,↓wA,↓wC,wB,cL,cK,a7,a8,bA,reduceIte,reduceCtorEq,aA,bB,dE])|(refine cI hG (by simp [dB,dI,aWv]) rfl ?_)|(refine cI hS (by simp [dB,dI,aWv]) rfl ?_)|((first|apply cG|apply cH|apply cF)<;>intro h<;>try simp only [h]))
   refine lN hM (by simp [dB,dI]) fun rs h=>?_
   obtain ⟨q,rfl,hq⟩:=h
   have hwV:q.w.isV=true:=rfl
   have hwS:q.w.size=5:=rfl
   refine ⟨.inl rfl,?_⟩
   unfold uW uV
   rw [hR]
   cases hm:wH o k id a v with
   | none =>
    repeat' (first|(simp only [aWR,hwV,hwS,cJ,Option.isSome_none,↓wA,↓wC,wB,cL,cK,a7,a8,bA,reduceIte,reduceCtorEq,aA,bB,dE])|((first|apply cG|apply cH|apply cF)<;>intro h<;>try simp only [h]))
    all_goals rfl
   | some q' =>
    obtain rfl:=hq q' hm
    repeat' (first|(simp only [aWR,hwV,hwS,cJ,Option.isSome_some,↓wA,↓wC,wB,cL,cK,a7,a8,bA,reduceIte,reduceCtorEq,aA,bB,dE])|((first|apply cG|apply cH|apply cF)<;>intro h<;>try simp only [h]))
    all_goals exact cQ rfl (fD _ rfl (cQ rfl (cQ rfl (cQ rfl rfl))))
theorem aFy (o:Off) (k id a v:Int) (ho:o.ok0):Fn prog 96 [o.s,jZ k id a v] (fun rs=>rs=[(uW o k id a v).s,.bool (uV o k id a v)]):=by
 simpa [D.unown,aWN] using fY (aEZ o k id a v ho)
def zS:D:=jZ 0 0 0 0
def os:Option Stp->D
 | some x=>x.d
 | none=>zS
end Go.Pe.Tryz
namespace Go.Pe.Tryz
def mE (b:UInt8):Bool:=decide (48<=b.toNat) && decide (b.toNat<=57)
def tQ (s:List UInt8):Int:=s.foldl (fun n b=>10 * n + ((b.toNat:Int) - 48)) 0
theorem u0 (s:List UInt8) (b:UInt8):tQ (s ++ [b])=10 * tQ s + ((b.toNat:Int) - 48):=by
 unfold tQ
 rw [List.foldl_append]; rfl
theorem aCi:∀ u:Nat,tQ (Lib.decDigits u)=(u:Int):=by
 intro u
 induction u using Nat.strongRecOn with
 | _ u ih =>
  have one:∀ d:Nat,d < 10->(UInt8.ofNat (48 + d)).toNat=48 + d:=fun d hd=>by
   rw [UInt8.toNat_ofNat']; omega
  rw [Lib.decDigits]
  by_cases h:u < 10
  ·rw [dif_pos h]
   have:=u0 [] (UInt8.ofNat (48 + u))
   rw [aI] at this
   rw [this,one u h]
   show 10 * (0:Int) + _=_
   omega
  ·rw [dif_neg h,u0,ih (u / 10) (by omega),one (u % 10) (by omega)]
   omega
theorem yJ:∀ (k u:Nat),u < 10 ^ (k + 1)->(Lib.decDigits u).length<=k + 1
 | 0,u,h=>by
  rw [Lib.decDigits,dif_pos (by simpa using h)]; simp
 | k + 1,u,h=>by
  rw [Lib.decDigits]
  by_cases lA:u < 10
  ·rw [dif_pos lA]; simp
  ·rw [dif_neg lA]
   have:=yJ k (u / 10) (by rw [Nat.pow_succ] at h; omega)
   simp only [List.length_append,List.length_singleton]; omega
theorem aFt (u:Nat):(Lib.decDigits u).all mE=true:=by
 rw [aK]
 intro b hb
 have:=lR u b hb
 simp only [mE,aG,decide_eq_true_eq]
 exact this
theorem xV (u:Nat):Lib.itoa (u:Int)=Lib.decDigits u:=by
 unfold Lib.itoa
 rw [if_neg (by omega)]; simp
theorem yA (u:Nat) (h:0 < u):Lib.itoa (-(u:Int))=45 :: Lib.decDigits u:=by
 unfold Lib.itoa
 rw [if_pos (by omega)]; simp
theorem aJD:∀ (n:Nat) (s:List UInt8),s.length=n->s.all mE=true->0<=tQ s/\tQ s < 10 ^ n:=by
 intro n
 induction n with
 | zero =>
  intro s hs _
  obtain rfl:=List.eq_nil_of_length_eq_zero hs
  exact ⟨Int.le_refl _,by decide⟩
 | succ n ih =>
  intro s hs ha
  rcases List.eq_nil_or_concat s with rfl|⟨u,b,rfl⟩
  ·simp at hs
  ·rw [List.concat_eq_append] at *
   rw [List.all_append,aG] at ha
   have hb:mE b=true:=by simpa using ha.2
   simp only [mE,aG,decide_eq_true_eq] at hb
   have h:=ih u (by simpa using hs) ha.1
   rw [u0,Int.pow_succ]
   omega
theorem aEh (x:UInt8) (a t:List UInt8) (h:x ∉ a):∀ j,j<=t.length->zE x (a ++ x :: t) (a.length + 1 + j)=(a :: (zE x t j).1,a.length + 1 + (zE x t j).2)
 | 0,_=>by
  have hi:=zB x (a ++ x :: t) a.length (by simp)
  rcases hi with ⟨h1,h2,_⟩|⟨h1,_⟩
  ·have hx:(a ++ x :: t)[a.length]?=some x:=by simp
   rw [Nat.add_zero,aAa hx,if_pos rfl,h1,h2]
   simp [zE]
  ·exfalso
   -- nothing is done cZ the first byte x
   have hz:∀ k,k<=a.length->(zE x (a ++ x :: t) k).1=[]:=by
    intro k
    induction k with
    | zero=>intro _; rfl
    | succ k ih =>
     intro hk
     have hk':k < a.length:=hk
     have hc:(a ++ x :: t)[k]?=some a[k]:=by rw [List.getElem?_append_left hk',List.getElem?_eq_getElem hk']
     rw [aAa hc,if_neg (fun e:a[k]=x=>h (e ▸ List.getElem_mem hk')),ih (by omega)]
   rw [hz a.length (aO _)] at h1
   simp at h1
 | j + 1,hj=>by
  have ih:=aEh x a t h j (by omega)
  have hjl:j < t.length:=hj
  have hc:(a ++ x :: t)[a.length + 1 + j]?=some t[j]:=by
   rw [List.getElem?_append_right (by omega),show a.length + 1 + j - a.length=j + 1 by omega]
   simp [List.getElem?_eq_getElem hjl]
  have hc':t[j]?=some t[j]:=List.getElem?_eq_getElem hjl
  rw [show a.length + 1 + (j + 1)=(a.length + 1 + j) + 1 by omega,aAa hc,aAa hc',ih]
  have e1:(a ++ x :: t).take (a.length + 1 + j)=a ++ x :: t.take j:=by
   rw [List.take_append,List.take_of_length_le (by omega),show a.length + 1 + j - a.length=j + 1 by omega,List.take_succ_cons]
  have e2:∀ p,(a ++ x :: t.take j).drop (a.length + 1 + p)=(t.take j).drop p:=fun p=>by
   rw [aY,<-aX,aW rfl,a6 1 p,aP]
  split
  ·simp only [e1,e2,aF]
   rfl
  ·rfl
theorem wU {x:UInt8} {a t:List UInt8} (h:x ∉ a):parts x (a ++ x :: t)=a :: parts x t:=by
 unfold parts
 have e:=aEh x a t h t.length (aO _)
 have hl:(a ++ x :: t).length=a.length + 1 + t.length:=by simp; omega
 rw [hl,e]
 have e2:∀ p,(a ++ x :: t).drop (a.length + 1 + p)=t.drop p:=fun p=>by
  rw [aY,<-aX,aW rfl,a6 1 p,aP]
 simp only [e2,aF]
theorem aCx {x:UInt8} {s:List UInt8} (h:x ∉ s):parts x s=[s]:=by
 unfold parts
 rcases zB x s s.length (aO _) with ⟨h1,h2,_⟩|⟨_,h2⟩
 ·rw [h1,h2]; rfl
 ·exact absurd h2 h
def rdS (s:List UInt8):Bool:=decide (1 < s.length) && (s.head? == some 45)
def k0 (s:List UInt8):List UInt8:=if rdS s=true then s.drop 1 else s
def rdV (s:List UInt8):Int:=if rdS s=true then -(tQ (k0 s)) else tQ (k0 s)
def kK (s:List UInt8):Option Int:=if 1<=(k0 s).length/\(k0 s).length<=6/\(k0 s).all mE=true/\Lib.itoa (rdV s)=s then some (rdV s) else none
theorem aFv {s:List UInt8} (h1:(k0 s).length<=6) (h2:(k0 s).all mE=true):-999999<=rdV s/\rdV s<=999999:=by
 have hb:=aJD (k0 s).length (k0 s) rfl h2
 have:(10:Int) ^ (k0 s).length<=10 ^ 6:=by
  have h7:(10:Nat) ^ (k0 s).length<=10 ^ 6:=aU (by decide) h1
  exact_mod_cast h7
 have e:(10:Int) ^ 6=1000000:=by decide
 unfold rdV
 split<;>omega
theorem aIy {n:Int} (h0:-999999<=n) (h1:n<=999999):kK (Lib.itoa n)=some n:=by
 by_cases hn:0<=n
 ·obtain ⟨u,rfl⟩:=Int.eq_ofNat_of_zero_le hn
  rw [xV]
  have hs:rdS (Lib.decDigits u)=false:=by
   unfold rdS
   cases hd:Lib.decDigits u with
   | nil=>rfl
   | cons b r =>
    have:=lR u b (by rw [hd]; simp)
    have hb:b≠45:=fun e=>by rw [e] at this; revert this; decide
    simp [hb]
  have hu:k0 (Lib.decDigits u)=Lib.decDigits u:=by unfold k0; rw [if_neg (by rw [hs]; decide)]
  have hv:rdV (Lib.decDigits u)=(u:Int):=by unfold rdV; rw [if_neg (by rw [hs]; decide),hu,aCi]
  unfold kK
  rw [hv,hu,if_pos ⟨aM.2 (mW u),yJ 5 u (by omega),aFt u,xV u⟩]
 ·obtain ⟨u,rfl⟩:∃ u:Nat,n=-(u:Int):=⟨n.natAbs,by omega⟩
  rw [yA u (by omega)]
  have hs:rdS (45 :: Lib.decDigits u)=true:=by
   have:=aM.2 (mW u)
   simp only [rdS,aL,List.head?_cons,beq_self_eq_true,aZ,decide_eq_true_eq]
   omega
  have hu:k0 (45 :: Lib.decDigits u)=Lib.decDigits u:=by unfold k0; rw [if_pos hs]; rfl
  have hv:rdV (45 :: Lib.decDigits u)=-(u:Int):=by unfold rdV; rw [if_pos hs,hu,aCi]
  unfold kK
  rw [hv,hu,if_pos ⟨aM.2 (mW u),yJ 5 u (by omega),aFt u,yA u (by omega)⟩]
theorem sQ {s:List UInt8} {n:Int} (h:kK s=some n):Lib.itoa n=s/\-999999<=n/\n<=999999:=by
 unfold kK at h
 split at h
 ·rename_i hc
  injection h with h
  subst h
  exact ⟨hc.2.2.2,aFv hc.2.1 hc.2.2.1⟩
 ·cases h
end Go.Pe.Tryz
namespace Go.Pe.Tryz
open Go.Proofs.Tryz Go.Sort
theorem aAc {s:List UInt8} {i:Nat} {b:UInt8} (hb:s[i]?=some b):tQ (s.take (i + 1))=10 * tQ (s.take i) + ((b.toNat:Int) - 48):=by
 have hi:=cV hb
 have:s.take (i + 1)=s.take i ++ [b]:=by
  rw [List.take_succ_eq_append_getElem hi]
  rw [List.getElem?_eq_getElem hi] at hb
  injection hb with hb
  rw [hb]
 rw [this,u0]
theorem mL {s:List UInt8} {i:Nat} (hi:i<=s.length) (h7:s.length<=7) (ha:∀ j b,j < i->s[j]?=some b->mE b=true):0<=tQ (s.take i)/\tQ (s.take i) < 10000000:=by
 have hal:(s.take i).all mE=true:=aK.2 fun b hb=>by
  obtain ⟨j,hj⟩:=List.getElem?_of_mem hb
  rw [List.getElem?_take] at hj
  split at hj
  ·exact ha j b (by assumption) hj
  ·cases hj
 have hb:=aJD (s.take i).length (s.take i) rfl hal
 have:(10:Int) ^ (s.take i).length<=10 ^ 7:=by
  have h7:(10:Nat) ^ (s.take i).length<=10 ^ 7:=aU (by decide) (by rw [List.length_take]; omega)
  exact_mod_cast h7
 have e:(10:Int) ^ 7=10000000:=by decide
 omega
theorem z6 (n:Int) (h:-1000000000<=n) (h1:n<=1000000000):Fn prog 89 [.int .i64 n] (fun rs=>rs=[.str (Lib.itoa n)]):=by
 by_cases h0:0<=n
 ·exact fR n h0 (by simp only [dX]; omega)
 ·have hN:=fR (-n) (by omega) (by simp only [dX]; omega)
  have hd:decide (n < 0)=true:=decide_eq_true (by omega)
  obtain ⟨u,hu⟩:∃ u:Nat,n=-(u:Int):=⟨n.natAbs,by omega⟩
  have hi:Lib.itoa n=45 :: Lib.itoa (-n):=by
   rw [hu,yA u (by omega),Int.neg_neg,xV]
  have hle:=eS (-n) (by simp only [dX]; omega)
  rw [hi]
  refine cW aO5 [] ?_
  dsimp only [aO5,cT,c7]
  repeat' (first|(simp only [hd,↓wA,↓wC,wB,cL,cK,a7,a8,bA,reduceIte,reduceCtorEq,aA,bB])|(refine cI (hN) rfl rfl ?_)|(refine cM (hN) rfl rfl ?_)|(refine cM hN rfl rfl ?_)|(with_reducible refine cP ?_ ?_; focus (simp only [dX]; omega))|(with_reducible refine cQ ?_ ?_; focus ((try simp only [aL,List.length_nil]); omega))|((first|apply cG|apply cH|apply cF)<;>intro h<;>try simp only [h]))
  all_goals rfl
def rdR (s:List UInt8):List D:=match kK s with
 | some n=>[.int .i64 n,.bool true]
 | none=>[.int .i64 0,.bool false]
theorem mX {s:List UInt8} (h:¬ (1<=(k0 s).length/\(k0 s).length<=6/\(k0 s).all mE=true/\Lib.itoa (rdV s)=s)):rdR s=[.int .i64 0,.bool false]:=by
 unfold rdR kK; rw [if_neg h]
theorem aBJ {s:List UInt8} (h:1<=(k0 s).length/\(k0 s).length<=6/\(k0 s).all mE=true/\Lib.itoa (rdV s)=s):rdR s=[.int .i64 (rdV s),.bool true]:=by
 unfold rdR kK; rw [if_pos h]
theorem aG7 {s:List UInt8} (h:rdS s=true):∃ t,s=45 :: t/\t≠[]:=by
 unfold rdS at h
 cases s with
 | nil=>simp at h
 | cons b t =>
  simp only [aL,List.head?_cons,aG,decide_eq_true_eq,beq_iff_eq,Option.some.injEq] at h
  exact ⟨t,by rw [h.2],fun e=>by rw [e] at h; simp at h⟩
theorem aKY {s:List UInt8} (h:rdS s=false):s.length<=1\/∃ b t,s=b :: t/\t≠[]/\decide ((b.toNat:Int)=45)=false:=by
 cases s with
 | nil=>left; simp
 | cons b t =>
  by_cases ht:t=[]
  ·left; rw [ht]; simp
  ·right
   refine ⟨b,t,rfl,ht,decide_eq_false fun e=>?_⟩
   have hb:b=45:=UInt8.toNat_inj.1 (by have:(45:UInt8).toNat=45:=rfl; omega)
   have:=aM.2 ht
   unfold rdS at h
   rw [hb] at h
   simp only [aL,List.head?_cons,beq_self_eq_true,aZ,decide_eq_false_iff_not] at h
   omega
theorem aUY (s:List UInt8):decide (((k0 s).length:Int) < (s.length:Int))=rdS s:=by
 cases h:rdS s with
 | true =>
  obtain ⟨t,rfl,ht⟩:=aG7 h
  unfold k0
  rw [if_pos h]
  exact decide_eq_true (by simp only [aP,List.drop_zero,aL]; omega)
 | false =>
  unfold k0
  rw [if_neg (by rw [h]; decide)]
  exact decide_eq_false (by omega)
theorem aK3 (s:List UInt8) (hl:s.length<=100000000):Fn prog 88 [.str s] (fun rs=>rs=rdR s):=by
 have hlt:=aUY s
 have hV:rdV s=if rdS s=true then -(tQ (k0 s)) else tQ (k0 s):=rfl
 cases hS:rdS s with
 | true =>
  rw [hS] at hlt hV
  obtain ⟨t,rfl,ht⟩:=aG7 hS
  have hU:t=k0 (45 :: t):=by unfold k0; rw [if_pos hS]; rfl
  have hps:=aM.2 ht
  simp only [aL] at hl
  have d1:decide ((1:Int) < ((t.length + 1:Nat):Int))=true:=decide_eq_true (by omega)
  have d1':(45 :: t:List UInt8)[(0:Int).toNat]?=some 45:=rfl
  have d1'':decide (((45:UInt8).toNat:Int)=45)=true:=rfl
  have hdr:(45 :: t:List UInt8).drop (1:Int).toNat=t:=rfl
  refine cW aLt [[1,1,1,0,0]] ?_
  dsimp only [aLt,cT,c7]
  repeat' (first|(simp only [cJ,d1,d1',d1'',hdr,↓wA,↓wC,wB,cL,cK,a7,a8,bA,reduceIte,reduceCtorEq,aA,bB])|(with_reducible refine cQ ?_ ?_; focus omega)|((first|apply cG|apply cH|apply cF)<;>intro h<;>try simp only [h]))
  refine c8 (s':=⟨[(0,.d (.str (45 :: t))),(4,.d (.str (k0 (45 :: t))))],[]⟩) (cU [] rfl ⟨⟨rfl,rfl⟩,⟨congrArg (fun x=>SV.d (.str x)) hU,rfl⟩,trivial⟩) ?_
  generalize hs:(45 :: t:List UInt8)=s at *
  clear hU
  have hW:=iK ((k0 s).length:Int) 1 6
  cases hw:dC ((k0 s).length:Int) 1 6 with
  | false =>
   rw [hw] at hW
   rw [mX (fun h=>by
    have:dC ((k0 s).length:Int) 1 6=true:=by simp only [dC,aG,decide_eq_true_eq]; omega
    rw [hw] at this; cases this)]
   repeat' (first|(simp only [↓wA,↓wC,wB,cL,cK,a7,a8,bA,reduceIte,reduceCtorEq,aA,bB])|(refine cI (hW) rfl rfl ?_)|(refine cM (hW) rfl rfl ?_)|((first|apply cG|apply cH|apply cF)<;>intro h<;>try simp only [h]))
  | true =>
   rw [hw] at hW
   have hwl:1<=(k0 s).length/\(k0 s).length<=6:=by
    simp only [dC,aG,decide_eq_true_eq] at hw; omega
   repeat' (first|(simp only [↓wA,↓wC,wB,cL,cK,a7,a8,bA,reduceIte,reduceCtorEq,aA,bB])|(refine cI (hW) rfl rfl ?_)|(refine cM (hW) rfl rfl ?_)|((first|apply cG|apply cH|apply cF)<;>intro h<;>try simp only [h]))
   refine dR (k0 s).length (fun i:Nat=>⟨[(0,.d (.str s)),(4,.d (.str (k0 s))),(5,.d (.int .i64 (tQ ((k0 s).take i)))),(6,.d (.int .i64 i))],[]⟩) (fun i=>∀ j b,j < i->(k0 s)[j]?=some b->mE b=true) (cU _ rfl ⟨⟨rfl,rfl⟩,⟨rfl,rfl⟩,⟨rfl,rfl⟩,⟨rfl,rfl⟩,trivial⟩) (fun j r hj=>by omega) ?_ ?_
   ·intro i hlti hinv hd2 hi0
    obtain ⟨b,hb⟩:=dP hlti
    have hbd:=mL (i:=i) (by omega) (by omega) (fun j c hj hc=>hinv j c hj hc)
    have hst:=aAc hb
    have hno:mE b=false->rdR s=[.int .i64 0,.bool false]:=fun h=>mX fun hh=>by
     have:=aK.1 hh.2.2.1 b (aH hb)
     rw [h] at this; cases this
    by_cases h48:48<=b.toNat
    ·have e48:decide ((b.toNat:Int) < 48)=false:=decide_eq_false (by omega)
     by_cases h57:b.toNat<=57
     ·have e57:decide ((57:Int) < (b.toNat:Int))=false:=decide_eq_false (by omega)
      repeat' (first|(simp only [hd2,hi0,hb,e48,e57,aB,cJ,↓wA,↓wC,wB,cL,cK,a7,a8,bA,reduceIte,reduceCtorEq,aA,bB])|(with_reducible refine cP ?_ ?_; focus (simp only [dX]; omega))|((first|apply cG|apply cH|apply cF)<;>intro h<;>try simp only [h]))
      all_goals
       refine fF (cU _ rfl ⟨⟨rfl,rfl⟩,⟨rfl,rfl⟩,⟨congrArg (fun n=>SV.d (.int .i64 n)) hst.symm,rfl⟩,⟨rfl,rfl⟩,trivial⟩) hlti fun j c hj hc=>?_
       by_cases e:j=i
       ·subst e; rw [hb] at hc; injection hc with hc; rw [<- hc]; simp [mE,h48,h57]
       ·exact hinv j c (by omega) hc
     ·have e57:decide ((57:Int) < (b.toNat:Int))=true:=decide_eq_true (by omega)
      rw [hno (by simp [mE,h57])]
      repeat' (first|(simp only [hd2,hi0,hb,e48,e57,aB,cJ,↓wA,↓wC,wB,cL,cK,a7,a8,bA,reduceIte,reduceCtorEq,aA,bB])|(with_reducible refine cP ?_ ?_; focus (simp only [dX]; omega))|((first|apply cG|apply cH|apply cF)<;>intro h<;>try simp only [h]))
    ·have e48:decide ((b.toNat:Int) < 48)=true:=decide_eq_true (by omega)
     rw [hno (by simp [mE,h48])]
     repeat' (first|(simp only [hd2,hi0,hb,e48,aB,cJ,↓wA,↓wC,wB,cL,cK,a7,a8,bA,reduceIte,reduceCtorEq,aA,bB])|(with_reducible refine cP ?_ ?_; focus (simp only [dX]; omega))|((first|apply cG|apply cH|apply cF)<;>intro h<;>try simp only [h]))
   ·intro hinv hd2
    have hall:(k0 s).all mE=true:=aK.2 fun b hb=>by
     obtain ⟨j,hj⟩:=List.getElem?_of_mem hb
     exact hinv j b (cV hj) hj
    have hbd:=mL (s:=k0 s) (i:=(k0 s).length) (aO _) (by omega) (fun j c hj hc=>hinv j c hj hc)
    rw [aN] at hbd
    have hvb:=aFv hwl.2 hall
    have hN:=z6 (rdV s) (by omega) (by omega)
    simp only [if_true,aQ,if_false] at hV
    rw [aN]
    by_cases he:Lib.itoa (rdV s)=s
    ·have de:decide (Lib.itoa (rdV s)=s)=true:=decide_eq_true he
     rw [aBJ ⟨hwl.1,hwl.2,hall,he⟩]
     rw [hV] at hN de ⊢
     repeat' (first|(simp only [hd2,hlt,de,↓wA,↓wC,wB,cL,cK,a7,a8,bA,reduceIte,reduceCtorEq,aA,bB])|(refine cI (hN) rfl rfl ?_)|(refine cM (hN) rfl rfl ?_)|(with_reducible refine cP ?_ ?_; focus (simp only [dX]; omega))|((first|apply cG|apply cH|apply cF)<;>intro h<;>try simp only [h]))
    ·have de:decide (Lib.itoa (rdV s)=s)=false:=decide_eq_false he
     rw [mX fun h=>he h.2.2.2]
     rw [hV] at hN de
     repeat' (first|(simp only [hd2,hlt,de,↓wA,↓wC,wB,cL,cK,a7,a8,bA,reduceIte,reduceCtorEq,aA,bB])|(refine cI (hN) rfl rfl ?_)|(refine cM (hN) rfl rfl ?_)|(with_reducible refine cP ?_ ?_; focus (simp only [dX]; omega))|((first|apply cG|apply cH|apply cF)<;>intro h<;>try simp only [h]))
 | false =>
  rw [hS] at hlt hV
  have hU:s=k0 s:=by unfold k0; rw [if_neg (by rw [hS]; decide)]
  rcases aKY hS with h1|⟨b,t,hbt,ht,hb⟩
  ·have d1:decide ((1:Int) < (s.length:Int))=false:=decide_eq_false (by omega)
   refine cW aLt [[1,1,1,0,0]] ?_
   dsimp only [aLt,cT,c7]
   repeat' (first|(simp only [cJ,d1,↓wA,↓wC,wB,cL,cK,a7,a8,bA,reduceIte,reduceCtorEq,aA,bB])|(with_reducible refine cQ ?_ ?_; focus omega)|((first|apply cG|apply cH|apply cF)<;>intro h<;>try simp only [h]))
   refine c8 (s':=⟨[(0,.d (.str s)),(4,.d (.str (k0 s)))],[]⟩) (cU [] rfl ⟨⟨rfl,rfl⟩,⟨congrArg (fun x=>SV.d (.str x)) hU,rfl⟩,trivial⟩) ?_
   clear hU
   have hW:=iK ((k0 s).length:Int) 1 6
   cases hw:dC ((k0 s).length:Int) 1 6 with
   | false =>
    rw [hw] at hW
    rw [mX (fun h=>by
     have:dC ((k0 s).length:Int) 1 6=true:=by simp only [dC,aG,decide_eq_true_eq]; omega
     rw [hw] at this; cases this)]
    repeat' (first|(simp only [↓wA,↓wC,wB,cL,cK,a7,a8,bA,reduceIte,reduceCtorEq,aA,bB])|(refine cI (hW) rfl rfl ?_)|(refine cM (hW) rfl rfl ?_)|((first|apply cG|apply cH|apply cF)<;>intro h<;>try simp only [h]))
   | true =>
    rw [hw] at hW
    have hwl:1<=(k0 s).length/\(k0 s).length<=6:=by
     simp only [dC,aG,decide_eq_true_eq] at hw; omega
    repeat' (first|(simp only [↓wA,↓wC,wB,cL,cK,a7,a8,bA,reduceIte,reduceCtorEq,aA,bB])|(refine cI (hW) rfl rfl ?_)|(refine cM (hW) rfl rfl ?_)|((first|apply cG|apply cH|apply cF)<;>intro h<;>try simp only [h]))
    refine dR (k0 s).length (fun i:Nat=>⟨[(0,.d (.str s)),(4,.d (.str (k0 s))),(5,.d (.int .i64 (tQ ((k0 s).take i)))),(6,.d (.int .i64 i))],[]⟩) (fun i=>∀ j b,j < i->(k0 s)[j]?=some b->mE b=true) (cU _ rfl ⟨⟨rfl,rfl⟩,⟨rfl,rfl⟩,⟨rfl,rfl⟩,⟨rfl,rfl⟩,trivial⟩) (fun j r hj=>by omega) ?_ ?_
    ·intro i hlti hinv hd2 hi0
     obtain ⟨b,hb⟩:=dP hlti
     have hbd:=mL (i:=i) (by omega) (by omega) (fun j c hj hc=>hinv j c hj hc)
     have hst:=aAc hb
     have hno:mE b=false->rdR s=[.int .i64 0,.bool false]:=fun h=>mX fun hh=>by
      have:=aK.1 hh.2.2.1 b (aH hb)
      rw [h] at this; cases this
     by_cases h48:48<=b.toNat
     ·have e48:decide ((b.toNat:Int) < 48)=false:=decide_eq_false (by omega)
      by_cases h57:b.toNat<=57
      ·have e57:decide ((57:Int) < (b.toNat:Int))=false:=decide_eq_false (by omega)
       repeat' (first|(simp only [hd2,hi0,hb,e48,e57,aB,cJ,↓wA,↓wC,wB,a7,reduceIte,reduceCtorEq])|(with_reducible refine cP ?_ ?_; focus (simp only [dX]; omega))|((first|apply cG|apply cH|apply cF)<;>intro h<;>try simp only [h]))
       all_goals
        refine fF (cU _ rfl ⟨⟨rfl,rfl⟩,⟨rfl,rfl⟩,⟨congrArg (fun n=>SV.d (.int .i64 n)) hst.symm,rfl⟩,⟨rfl,rfl⟩,trivial⟩) hlti fun j c hj hc=>?_
        by_cases e:j=i
        ·subst e; rw [hb] at hc; injection hc with hc; rw [<- hc]; simp [mE,h48,h57]
        ·exact hinv j c (by omega) hc
      ·have e57:decide ((57:Int) < (b.toNat:Int))=true:=decide_eq_true (by omega)
       rw [hno (by simp [mE,h57])]
       repeat' (first|(simp only [hd2,hi0,hb,e48,e57,aB,cJ,↓wA,↓wC,wB,cL,cK,a7,a8,bA,reduceIte,reduceCtorEq,aA,bB])|(with_reducible refine cP ?_ ?_; focus (simp only [dX]; omega))|((first|apply cG|apply cH|apply cF)<;>intro h<;>try simp only [h]))
     ·have e48:decide ((b.toNat:Int) < 48)=true:=decide_eq_true (by omega)
      rw [hno (by simp [mE,h48])]
      repeat' (first|(simp only [hd2,hi0,hb,e48,aB,cJ,↓wA,↓wC,wB,cL,cK,a7,a8,bA,reduceIte,reduceCtorEq,aA,bB])|(with_reducible refine cP ?_ ?_; focus (simp only [dX]; omega))|((first|apply cG|apply cH|apply cF)<;>intro h<;>try simp only [h]))
    ·intro hinv hd2
     have hall:(k0 s).all mE=true:=aK.2 fun b hb=>by
      obtain ⟨j,hj⟩:=List.getElem?_of_mem hb
      exact hinv j b (cV hj) hj
     have hbd:=mL (s:=k0 s) (i:=(k0 s).length) (aO _) (by omega) (fun j c hj hc=>hinv j c hj hc)
     rw [aN] at hbd
     have hvb:=aFv hwl.2 hall
     have hN:=z6 (rdV s) (by omega) (by omega)
     simp only [if_true,aQ,if_false] at hV
     rw [aN]
     by_cases he:Lib.itoa (rdV s)=s
     ·have de:decide (Lib.itoa (rdV s)=s)=true:=decide_eq_true he
      rw [aBJ ⟨hwl.1,hwl.2,hall,he⟩]
      rw [hV] at hN de ⊢
      repeat' (first|(simp only [hd2,hlt,de,↓wA,↓wC,wB,cL,cK,a7,a8,bA,reduceIte,reduceCtorEq,aA,bB])|(refine cI (hN) rfl rfl ?_)|(refine cM (hN) rfl rfl ?_)|(with_reducible refine cP ?_ ?_; focus (simp only [dX]; omega))|((first|apply cG|apply cH|apply cF)<;>intro h<;>try simp only [h]))
     ·have de:decide (Lib.itoa (rdV s)=s)=false:=decide_eq_false he
      rw [mX fun h=>he h.2.2.2]
      rw [hV] at hN de
      repeat' (first|(simp only [hd2,hlt,de,↓wA,↓wC,wB,cL,cK,a7,a8,bA,reduceIte,reduceCtorEq,aA,bB])|(refine cI (hN) rfl rfl ?_)|(refine cM (hN) rfl rfl ?_)|(with_reducible refine cP ?_ ?_; focus (simp only [dX]; omega))|((first|apply cG|apply cH|apply cF)<;>intro h<;>try simp only [h]))
  ·have hps:=aM.2 ht
   have d1:decide ((1:Int) < (s.length:Int))=true:=decide_eq_true (by rw [hbt,aL]; omega)
   have d1':s[(0:Int).toNat]?=some b:=by rw [hbt]; rfl
   refine cW aLt [[1,1,1,0,0]] ?_
   dsimp only [aLt,cT,c7]
   repeat' (first|(simp only [cJ,d1,d1',hb,↓wA,↓wC,wB,cL,cK,a7,a8,bA,reduceIte,reduceCtorEq,aA,bB])|(with_reducible refine cQ ?_ ?_; focus omega)|((first|apply cG|apply cH|apply cF)<;>intro h<;>try simp only [h]))
   refine c8 (s':=⟨[(0,.d (.str s)),(4,.d (.str (k0 s)))],[]⟩) (cU [] rfl ⟨⟨rfl,rfl⟩,⟨congrArg (fun x=>SV.d (.str x)) hU,rfl⟩,trivial⟩) ?_
   clear hU
   have hW:=iK ((k0 s).length:Int) 1 6
   cases hw:dC ((k0 s).length:Int) 1 6 with
   | false =>
    rw [hw] at hW
    rw [mX (fun h=>by
     have:dC ((k0 s).length:Int) 1 6=true:=by simp only [dC,aG,decide_eq_true_eq]; omega
     rw [hw] at this; cases this)]
    repeat' (first|(simp only [↓wA,↓wC,wB,a7,reduceIte,reduceCtorEq])|(refine cI (hW) rfl rfl ?_)|(refine cM (hW) rfl rfl ?_)|((first|apply cG|apply cH|apply cF)<;>intro h<;>try simp only [h]))
   | true =>
    rw [hw] at hW
    have hwl:1<=(k0 s).length/\(k0 s).length<=6:=by
     simp only [dC,aG,decide_eq_true_eq] at hw; omega
    repeat' (first|(simp only [↓wA,↓wC,wB,a7,reduceIte,reduceCtorEq])|(refine cI (hW) rfl rfl ?_)|(refine cM (hW) rfl rfl ?_)|((first|apply cG|apply cH|apply cF)<;>intro h<;>try simp only [h]))
    refine dR (k0 s).length (fun i:Nat=>⟨[(0,.d (.str s)),(4,.d (.str (k0 s))),(5,.d (.int .i64 (tQ ((k0 s).take i)))),(6,.d (.int .i64 i))],[]⟩) (fun i=>∀ j b,j < i->(k0 s)[j]?=some b->mE b=true) (cU _ rfl ⟨⟨rfl,rfl⟩,⟨rfl,rfl⟩,⟨rfl,rfl⟩,⟨rfl,rfl⟩,trivial⟩) (fun j r hj=>by omega) ?_ ?_
    ·intro i hlti hinv hd2 hi0
     obtain ⟨b,hb⟩:=dP hlti
     have hbd:=mL (i:=i) (by omega) (by omega) (fun j c hj hc=>hinv j c hj hc)
     have hst:=aAc hb
     have hno:mE b=false->rdR s=[.int .i64 0,.bool false]:=fun h=>mX fun hh=>by
      have:=aK.1 hh.2.2.1 b (aH hb)
      rw [h] at this; cases this
     by_cases h48:48<=b.toNat
     ·have e48:decide ((b.toNat:Int) < 48)=false:=decide_eq_false (by omega)
      by_cases h57:b.toNat<=57
      ·have e57:decide ((57:Int) < (b.toNat:Int))=false:=decide_eq_false (by omega)
       repeat' (first|(simp only [hd2,hi0,hb,e48,e57,aB,cJ,↓wA,↓wC,wB,cL,cK,a7,a8,bA,reduceIte,reduceCtorEq,aA,bB])|(with_reducible refine cP ?_ ?_; focus (simp only [dX]; omega))|((first|apply cG|apply cH|apply cF)<;>intro h<;>try simp only [h]))
       all_goals
        refine fF (cU _ rfl ⟨⟨rfl,rfl⟩,⟨rfl,rfl⟩,⟨congrArg (fun n=>SV.d (.int .i64 n)) hst.symm,rfl⟩,⟨rfl,rfl⟩,trivial⟩) hlti fun j c hj hc=>?_
        by_cases e:j=i
        ·subst e; rw [hb] at hc; injection hc with hc; rw [<- hc]; simp [mE,h48,h57]
        ·exact hinv j c (by omega) hc
      ·have e57:decide ((57:Int) < (b.toNat:Int))=true:=decide_eq_true (by omega)
       rw [hno (by simp [mE,h57])]
       repeat' (first|(simp only [hd2,hi0,hb,e48,e57,aB,cJ,↓wA,↓wC,wB,cL,cK,a7,a8,bA,reduceIte,reduceCtorEq,aA,bB])|(with_reducible refine cP ?_ ?_; focus (simp only [dX]; omega))|((first|apply cG|apply cH|apply cF)<;>intro h<;>try simp only [h]))
     ·have e48:decide ((b.toNat:Int) < 48)=true:=decide_eq_true (by omega)
      rw [hno (by simp [mE,h48])]
      repeat' (first|(simp only [hd2,hi0,hb,e48,aB,cJ,↓wA,↓wC,wB,cL,cK,a7,a8,bA,reduceIte,reduceCtorEq,aA,bB])|(with_reducible refine cP ?_ ?_; focus (simp only [dX]; omega))|((first|apply cG|apply cH|apply cF)<;>intro h<;>try simp only [h]))
    ·intro hinv hd2
     have hall:(k0 s).all mE=true:=aK.2 fun b hb=>by
      obtain ⟨j,hj⟩:=List.getElem?_of_mem hb
      exact hinv j b (cV hj) hj
     have hbd:=mL (s:=k0 s) (i:=(k0 s).length) (aO _) (by omega) (fun j c hj hc=>hinv j c hj hc)
     rw [aN] at hbd
     have hvb:=aFv hwl.2 hall
     have hN:=z6 (rdV s) (by omega) (by omega)
     simp only [if_true,aQ,if_false] at hV
     rw [aN]
     by_cases he:Lib.itoa (rdV s)=s
     ·have de:decide (Lib.itoa (rdV s)=s)=true:=decide_eq_true he
      rw [aBJ ⟨hwl.1,hwl.2,hall,he⟩]
      rw [hV] at hN de ⊢
      repeat' (first|(simp only [hd2,hlt,de,↓wA,↓wC,wB,cL,cK,a7,a8,bA,reduceIte,reduceCtorEq,aA,bB])|(refine cI (hN) rfl rfl ?_)|(refine cM (hN) rfl rfl ?_)|(with_reducible refine cP ?_ ?_; focus (simp only [dX]; omega))|((first|apply cG|apply cH|apply cF)<;>intro h<;>try simp only [h]))
     ·have de:decide (Lib.itoa (rdV s)=s)=false:=decide_eq_false he
      rw [mX fun h=>he h.2.2.2]
      rw [hV] at hN de
      repeat' (first|(simp only [hd2,hlt,de,↓wA,↓wC,wB,a7,reduceIte,reduceCtorEq])|(refine cI (hN) rfl rfl ?_)|(refine cM (hN) rfl rfl ?_)|(with_reducible refine cP ?_ ?_; focus (simp only [dX]; omega))|((first|apply cG|apply cH|apply cF)<;>intro h<;>try simp only [h]))
end Go.Pe.Tryz
namespace Go.Pe.Tryz
@[reducible] def nB : List UInt8 := [119, 97, 105, 116]
@[reducible] def kG : List UInt8 := [101, 110, 116, 101, 114]
@[reducible] def nX : List UInt8 := [104, 111, 108, 100]
@[reducible] def gF : List UInt8 := [114, 101, 108, 101, 97, 115, 101]
@[reducible] def kQ : List UInt8 := [100, 101, 108, 97, 121]
@[reducible] def tP : List UInt8 := [97, 99, 116]
@[reducible] def uO : List UInt8 := [100, 97, 121]
@[reducible] def tW : List UInt8 := [100, 117, 101]
@[reducible] def gK : List UInt8 := [98, 108, 111, 99, 107, 101, 100]
@[reducible] def oG : List UInt8 := [114, 111, 111, 116]
@[reducible] def nY : List UInt8 := [104, 101, 108, 100]
@[reducible] def oO : List UInt8 := [99, 97, 115, 101]
@[reducible] def qZ : List (List UInt8 × Int) := [(nB, 1), (kG, 3), (nX, 2), (gF, 1), (kQ, 2), (tP, 1), (uO, 0), (tW, 0), (gK, 0), (oG, 0), (nY, 1), (oO, 1)]
def o7:List (List UInt8)->Option (List Int)
 | []=>some []
 | w :: ws=>match kK w with
  | some n=>(o7 ws).map (n :: ·)
  | none=>none
def n0 (n:List Int):Int:=n[0]?.getD 0
def n1' (n:List Int):Int:=n[1]?.getD 0
def n2' (n:List Int):Int:=n[2]?.getD 0
def l7 (w:List UInt8) (n:List Int):Option Stp :=
 if w=nB then some ⟨1,0,0,n0 n⟩
 else if w=kG then some ⟨2,n0 n,n1' n,n2' n⟩
 else if w=nX then some ⟨3,n0 n,0,n1' n⟩
 else if w=gF then some ⟨4,0,0,n0 n⟩
 else if w=kQ then some ⟨5,n0 n,0,n1' n⟩
 else if w=tP then some ⟨6,n0 n,0,0⟩
 else none
def m8 (l:List Int):List UInt8:=if l=[] then [110,111,110,101] else Lib.join (l.map Lib.itoa) [32]
def aBc (p:Cs->Bool) (o:Off):Option (List Int):=if dO o=true then some (mH p o.cs) else none
def aAl (n:Int) (o:Off):Option (List Int):=if (dO o && dC n 1 9)=true then some (mH (aB7 n) o.cs) else none
def aEw (o:Off):Option Int:=if dO o=true/\eM o.led=true then some (nD (o.led.map j5)) else none
def kF (o:Off) (id:Int):Option (List UInt8):=if dO o=true/\0<=fU o.cs id then some (txt (o.cs[(fU o.cs id).toNat]?.getD ⟨0,0,0,[]⟩)) else none
def aHg (o:Off):List Int:=[o.kept,o.moved,o.led.length]
def fO (b o:Off) (w:List UInt8) (n:List Int):Option (List UInt8) :=
 if w=nB\/w=uO then some (Lib.itoa o.day)
 else if w=gF then (aAl (n0 n) b).map m8
 else if w=tP then some (m8 (aHg o))
 else if w=tW then (aBc (rW o) o).map m8
 else if w=gK then (aBc (rC o) o).map m8
 else if w=oG then (aEw o).map Lib.itoa
 else if w=nY then (aAl (n0 n) o).map m8
 else kF o (n0 n)
def aA8 (o:Off) (w:List UInt8) (ws:List (List UInt8)):Option (Off×List UInt8) :=
 match o7 ws with
 | none=>none
 | some n=>if lkp qZ w=some (n.length:Int) then
   (match l7 w n with
   | some s=>match gY o s.k s.i s.a s.v with
    | some q=>(fO o q w n).map fun r=>(q,r)
    | none=>none
   | none=>(fO o o w n).map fun r=>(o,r))
  else none
def qm:List UInt8:=[63]
def tK (l:Option (List Int)):List UInt8:=(l.map m8).getD qm
def aCq (o:Off) (id:Int):List UInt8:=(kF o id).getD qm
def oN (o:Off) (s:Stp):Off×List UInt8 :=
 match gY o s.k s.i s.a s.v with
 | none=>(o,qm)
 | some q=>(q,if s.k=1 then Lib.itoa q.day else if s.k=4 then tK (aAl s.v o) else if s.k=6 then tK (some (aHg q)) else aCq q s.i)
def lW (o:Off) (l:List UInt8):List UInt8 :=
 if l=uO then Lib.itoa o.day
 else if l=tW then tK (aBc (rW o) o)
 else if l=gK then tK (aBc (rC o) o)
 else if l=oG then ((aEw o).map Lib.itoa).getD qm
 else qm
def pY (o:Off) (w:List UInt8) (n:Int):Off×List UInt8 :=
 if w=nB then oN o ⟨1,0,0,n⟩
 else if w=gF then oN o ⟨4,0,0,n⟩
 else if w=tP then oN o ⟨6,n,0,0⟩
 else if w=nY then (o,tK (aAl n o))
 else if w=oO then (o,aCq o n)
 else (o,qm)
def rH (o:Off) (w:List UInt8) (n v:Int):Off×List UInt8 :=
 if w=nX then oN o ⟨3,n,0,v⟩
 else if w=kQ then oN o ⟨5,n,0,v⟩
 else (o,qm)
def oQ (o:Off) (w:List UInt8) (ws:List (List UInt8)):Off×List UInt8 :=
 match o7 ws with
 | none=>(o,qm)
 | some []=>(o,lW o w)
 | some [a]=>pY o w a
 | some [a,b]=>rH o w a b
 | some [a,b,c]=>if w=kG then oN o ⟨2,a,b,c⟩ else (o,qm)
 | some _=>(o,qm)
theorem aB2 {xs:List Cs} {id:Int} {x:Cs} (hx:x∈xs) (hi:x.i=id):0<=fU xs id:=by
 have h:decide (0<=fU xs id)=true:=by
  unfold fU
  rw [rO]
  exact List.any_eq_true.2 ⟨x,hx,decide_eq_true hi⟩
 exact of_decide_eq_true h
theorem aFG {o q:Off} {k id a v:Int} (h:gY o k id a v=some q):mkO o k id a v=some q:=by
 unfold gY at h
 split at h
 ·cases hm:mkO o k id a v with
  | none=>rw [hm] at h; cases h
  | some p =>
   rw [hm] at h
   simp only [Option.filter] at h
   split at h
   ·exact h
   ·cases h
 ·cases h
theorem aNd {o q:Off} {k id a v:Int} (hk:k=2\/k=3\/k=5) (h:gY o k id a v=some q):0<=fU q.cs id:=by
 have hm:=aFG h
 unfold mkO at hm
 by_cases k2:k=2
 ·rw [if_pos k2] at hm
  split at hm
  ·cases hm
  ·injection hm with hm
   subst hm
   exact aB2 (aD9 ⟨id,a,o.day + v,[]⟩ o.cs) rfl
 ·rw [if_neg k2] at hm
  split at hm
  ·cases hm
  rw [if_neg (by omega),if_neg (by omega)] at hm
  split at hm
  ·rename_i hf
   rcases mP o.cs id with ⟨_,hn⟩|⟨i,x,hi,hr,hx⟩
   ·exact absurd hf (of_decide_eq_false hn)
   ·rw [hi,aB,hr] at hm
    simp only at hm
    split at hm
    ·split at hm
     ·cases hm
     ·injection hm with hm
      subst hm
      exact aB2 (x:={ x with h:=kS v x.h }) (aBj hr) hx
    ·split at hm
     ·split at hm
      ·injection hm with hm
       subst hm
       exact aB2 (x:={ x with d:=x.d + v }) (aBj hr) hx
      ·cases hm
     ·omega
  ·cases hm
theorem nO {o q:Off} {k id a v:Int} (hk:k=2\/k=3\/k=5) (h:gY o k id a v=some q):∃ r,kF q id=some r:=by
 unfold kF
 rw [if_pos ⟨x7 h,aNd hk h⟩]
 exact ⟨_,rfl⟩
theorem aEb {o q:Off} {a v:Int} (h:gY o 4 0 a v=some q):∃ l,aAl v o=some l:=by
 have ho:dO o=true:=by
  cases hh:dO o with
  | true=>rfl
  | false=>unfold gY at h; rw [hh] at h; cases h
 unfold aAl
 rw [ho]
 cases hw:dC v 1 9 with
 | true=>exact ⟨_,rfl⟩
 | false =>
  have hm:=aFG h
  unfold mkO at hm
  rw [if_neg (by decide)] at hm
  split at hm
  ·cases hm
  rw [if_neg (by decide),if_pos rfl] at hm
  split at hm
  ·rename_i hc
   have hv:v < 1\/9 < v:=by
    by_cases q:1<=v/\v<=9
    ·rw [jR q.1 q.2] at hw; cases hw
    ·omega
   rw [aJC ho hv] at hc
   cases hc.2
  ·cases hm
theorem zP:lkp qZ nB=some 1:=by decide
theorem u6:lkp qZ kG=some 3:=by decide
theorem zT:lkp qZ nX=some 2:=by decide
theorem pF:lkp qZ gF=some 1:=by decide
theorem vC:lkp qZ kQ=some 2:=by decide
theorem aEq:lkp qZ tP=some 1:=by decide
theorem aBy:lkp qZ uO=some 0:=by decide
theorem aC8:lkp qZ tW=some 0:=by decide
theorem nI:lkp qZ gK=some 0:=by decide
theorem w4:lkp qZ oG=some 0:=by decide
theorem xH:lkp qZ nY=some 1:=by decide
theorem wN:lkp qZ oO=some 1:=by decide
theorem aSj (n:List Int):l7 nB n=some ⟨1,0,0,n0 n⟩:=rfl
theorem aJs (n:List Int):l7 kG n=some ⟨2,n0 n,n1' n,n2' n⟩:=rfl
theorem aNl (n:List Int):l7 nX n=some ⟨3,n0 n,0,n1' n⟩:=rfl
theorem aDW (n:List Int):l7 gF n=some ⟨4,0,0,n0 n⟩:=rfl
theorem aJv (n:List Int):l7 kQ n=some ⟨5,n0 n,0,n1' n⟩:=rfl
theorem aTY (n:List Int):l7 tP n=some ⟨6,n0 n,0,0⟩:=rfl
theorem aMS (n:List Int):l7 uO n=none:=rfl
theorem aM6 (n:List Int):l7 tW n=none:=rfl
theorem aAz (n:List Int):l7 gK n=none:=rfl
theorem aIN (n:List Int):l7 oG n=none:=rfl
theorem aIA (n:List Int):l7 nY n=none:=rfl
theorem aHK (n:List Int):l7 oO n=none:=rfl
theorem aMX (b o:Off) (n:List Int):fO b o nB n=some (Lib.itoa o.day):=rfl
theorem aJK (b o:Off) (n:List Int):fO b o kG n=kF o (n0 n):=rfl
theorem aLI (b o:Off) (n:List Int):fO b o nX n=kF o (n0 n):=rfl
theorem aD0 (b o:Off) (n:List Int):fO b o gF n=(aAl (n0 n) b).map m8:=rfl
theorem aJE (b o:Off) (n:List Int):fO b o kQ n=kF o (n0 n):=rfl
theorem aRT (b o:Off) (n:List Int):fO b o tP n=some (m8 (aHg o)):=rfl
theorem aQ9 (b o:Off) (n:List Int):fO b o uO n=some (Lib.itoa o.day):=rfl
theorem aRX (b o:Off) (n:List Int):fO b o tW n=(aBc (rW o) o).map m8:=rfl
theorem aED (b o:Off) (n:List Int):fO b o gK n=(aBc (rC o) o).map m8:=rfl
theorem aLy (b o:Off) (n:List Int):fO b o oG n=(aEw o).map Lib.itoa:=rfl
theorem aL8 (b o:Off) (n:List Int):fO b o nY n=(aAl (n0 n) o).map m8:=rfl
theorem aLw (b o:Off) (n:List Int):fO b o oO n=kF o (n0 n):=rfl
theorem aSn (o:Off):lW o nB=qm:=rfl
theorem aSt (o:Off) (n:Int):pY o nB n=oN o ⟨1,0,0,n⟩:=rfl
theorem aS2 (o:Off) (n v:Int):rH o nB n v=(o,qm):=rfl
theorem aO1 (o:Off):lW o kG=qm:=rfl
theorem aQe (o:Off) (n:Int):pY o kG n=(o,qm):=rfl
theorem aPE (o:Off) (n v:Int):rH o kG n v=(o,qm):=rfl
theorem aSA (o:Off):lW o nX=qm:=rfl
theorem aTh (o:Off) (n:Int):pY o nX n=(o,qm):=rfl
theorem aTm (o:Off) (n v:Int):rH o nX n v=oN o ⟨3,n,0,v⟩:=rfl
theorem aKu (o:Off):lW o gF=qm:=rfl
theorem aKD (o:Off) (n:Int):pY o gF n=oN o ⟨4,0,0,n⟩:=rfl
theorem aK9 (o:Off) (n v:Int):rH o gF n v=(o,qm):=rfl
theorem aPs (o:Off):lW o kQ=qm:=rfl
theorem aPx (o:Off) (n:Int):pY o kQ n=(o,qm):=rfl
theorem aQt (o:Off) (n v:Int):rH o kQ n v=oN o ⟨5,n,0,v⟩:=rfl
theorem aUD (o:Off):lW o tP=qm:=rfl
theorem aT6 (o:Off) (n:Int):pY o tP n=oN o ⟨6,n,0,0⟩:=rfl
theorem aUA (o:Off) (n v:Int):rH o tP n v=(o,qm):=rfl
theorem aRB (o:Off):lW o uO=Lib.itoa o.day:=rfl
theorem aUk (o:Off) (n:Int):pY o uO n=(o,qm):=rfl
theorem aUy (o:Off) (n v:Int):rH o uO n v=(o,qm):=rfl
theorem aRU (o:Off):lW o tW=tK (aBc (rW o) o):=rfl
theorem aUH (o:Off) (n:Int):pY o tW n=(o,qm):=rfl
theorem aUe (o:Off) (n v:Int):rH o tW n v=(o,qm):=rfl
theorem aDJ (o:Off):lW o gK=tK (aBc (rC o) o):=rfl
theorem aJR (o:Off) (n:Int):pY o gK n=(o,qm):=rfl
theorem aLr (o:Off) (n v:Int):rH o gK n v=(o,qm):=rfl
theorem aL4 (o:Off):lW o oG=((aEw o).map Lib.itoa).getD qm:=rfl
theorem aSD (o:Off) (n:Int):pY o oG n=(o,qm):=rfl
theorem aSb (o:Off) (n v:Int):rH o oG n v=(o,qm):=rfl
theorem aSm (o:Off):lW o nY=qm:=rfl
theorem aNp (o:Off) (n:Int):pY o nY n=(o,tK (aAl n o)):=rfl
theorem aSC (o:Off) (n v:Int):rH o nY n v=(o,qm):=rfl
theorem aSy (o:Off):lW o oO=qm:=rfl
theorem aND (o:Off) (n:Int):pY o oO n=(o,aCq o n):=rfl
theorem aSg (o:Off) (n v:Int):rH o oO n v=(o,qm):=rfl
theorem oW (w:List UInt8):w=nB\/w=kG\/w=nX\/w=gF\/w=kQ\/w=tP\/w=uO\/w=tW\/w=gK\/w=oG\/w=nY\/w=oO\/(w≠nB/\w≠kG/\w≠nX/\w≠gF/\w≠kQ/\w≠tP/\w≠uO/\w≠tW/\w≠gK/\w≠oG/\w≠nY/\w≠oO):=by
 by_cases hWait:w=nB
 ·simp [hWait]
 by_cases hEnter:w=kG
 ·simp [hEnter]
 by_cases hHold:w=nX
 ·simp [hHold]
 by_cases hRelease:w=gF
 ·simp [hRelease]
 by_cases hDelay:w=kQ
 ·simp [hDelay]
 by_cases hAct:w=tP
 ·simp [hAct]
 by_cases hDay:w=uO
 ·simp [hDay]
 by_cases hDue:w=tW
 ·simp [hDue]
 by_cases hBlocked:w=gK
 ·simp [hBlocked]
 by_cases hRoot:w=oG
 ·simp [hRoot]
 by_cases hHeld:w=nY
 ·simp [hHeld]
 by_cases hCase:w=oO
 ·simp [hCase]
 simp [hWait,hEnter,hHold,hRelease,hDelay,hAct,hDay,hDue,hBlocked,hRoot,hHeld,hCase]
theorem xE {w:List UInt8} (h:w≠nB/\w≠kG/\w≠nX/\w≠gF/\w≠kQ/\w≠tP/\w≠uO/\w≠tW/\w≠gK/\w≠oG/\w≠nY/\w≠oO):lkp qZ w=none:=by
 obtain ⟨h0,h1,h2,h3,h4,h5,h6,h7,h8,h9,lA,h11⟩:=h
 simp only [lkp,if_neg h0,if_neg h1,if_neg h2,if_neg h3,if_neg h4,if_neg h5,if_neg h6,if_neg h7,if_neg h8,if_neg h9,if_neg lA,if_neg h11]
theorem aI7 (o:Off) (w:List UInt8) (ws:List (List UInt8)) (ho:dO o=true):oQ o w ws=(aA8 o w ws).getD (o,qm):=by
 unfold oQ aA8
 have hm:∀ (s:Stp) (f:Off->Option (List UInt8)),(∀ q,gY o s.k s.i s.a s.v=some q->(if s.k=1 then Lib.itoa q.day else if s.k=4 then tK (aAl s.v o) else if s.k=6 then tK (some (aHg q)) else aCq q s.i)=(f q).getD qm/\(f q).isSome=true) ->
   oN o s=((match gY o s.k s.i s.a s.v with
    | some q=>(f q).map fun r=>(q,r)
    | none=>none):Option (Off×List UInt8)).getD (o,qm):=by
  intro s f hf
  unfold oN
  cases h:gY o s.k s.i s.a s.v with
  | none=>rfl
  | some q =>
   obtain ⟨h1,h2⟩:=hf q h
   simp only
   rw [h1]
   cases hq:f q with
   | none=>rw [hq] at h2; cases h2
   | some r=>rfl
 have hg:∀ x:Option (List UInt8),(x.map fun r=>(o,r)).getD (o,qm)=(o,x.getD qm):=fun x=>by cases x<;>rfl
 have hl:∀ x:Option (List Int),(x.map m8).getD qm=tK x:=fun x=>rfl
 have hla:∀ x:List Int,tK (some x)=m8 x:=fun x=>rfl
 have hcs:∀ (q:Off) (i:Int),(kF q i).getD qm=aCq q i:=fun _ _=>rfl
 cases hn:o7 ws with
 | none=>rfl
 | some n =>
  have hn0:n0 n=n0 n:=rfl
  match n,hn with
  | [],_ =>
   rcases oW w with rfl|rfl|rfl|rfl|rfl|rfl|rfl|rfl|rfl|rfl|rfl|rfl|h
   ·simp only [zP,aSn]
    rfl
   ·simp only [u6,aO1]
    rfl
   ·simp only [zT,aSA]
    rfl
   ·simp only [pF,aKu]
    rfl
   ·simp only [vC,aPs]
    rfl
   ·simp only [aEq,aUD]
    rfl
   ·simp only [aBy,aMS,aQ9,aRB]
    rw [if_pos (show (some 0:Option Int)=some (((([]:List Int)).length:Nat):Int) from rfl),hg]
    try rfl
   ·simp only [aC8,aM6,aRX,aRU]
    rw [if_pos (show (some 0:Option Int)=some (((([]:List Int)).length:Nat):Int) from rfl),hg]
    try rfl
   ·simp only [nI,aAz,aED,aDJ]
    rw [if_pos (show (some 0:Option Int)=some (((([]:List Int)).length:Nat):Int) from rfl),hg]
    try rfl
   ·simp only [w4,aIN,aLy,aL4]
    rw [if_pos (show (some 0:Option Int)=some (((([]:List Int)).length:Nat):Int) from rfl),hg]
    try rfl
   ·simp only [xH,aSm]
    rfl
   ·simp only [wN,aSy]
    rfl
   ·simp only [xE h]
    rw [if_neg (fun e=>by cases e)]
    unfold lW
    rw [if_neg h.2.2.2.2.2.2.1,if_neg h.2.2.2.2.2.2.2.1,if_neg h.2.2.2.2.2.2.2.2.1,if_neg h.2.2.2.2.2.2.2.2.2.1]
    rfl
  | [a],_ =>
   rcases oW w with rfl|rfl|rfl|rfl|rfl|rfl|rfl|rfl|rfl|rfl|rfl|rfl|h
   ·exact hm ⟨1,0,0,a⟩ (fun q=>some (Lib.itoa q.day)) (fun q _=>⟨rfl,rfl⟩)
   ·simp only [u6,aQe]
    rfl
   ·simp only [zT,aTh]
    rfl
   ·exact hm ⟨4,0,0,a⟩ (fun _=>(aAl a o).map m8) (fun q h=>by
     obtain ⟨l,hl⟩:=aEb h
     exact ⟨by simp only [hl]; rfl,by simp only [hl]; rfl⟩)
   ·simp only [vC,aPx]
    rfl
   ·exact hm ⟨6,a,0,0⟩ (fun q=>some (m8 (aHg q))) (fun q _=>⟨rfl,rfl⟩)
   ·simp only [aBy,aUk]
    rfl
   ·simp only [aC8,aUH]
    rfl
   ·simp only [nI,aJR]
    rfl
   ·simp only [w4,aSD]
    rfl
   ·simp only [xH,aIA,aL8,aNp]
    rw [if_pos (show (some 1:Option Int)=some (((([a]:List Int)).length:Nat):Int) from rfl),hg]
    try rfl
   ·simp only [wN,aHK,aLw,aND]
    rw [if_pos (show (some 1:Option Int)=some (((([a]:List Int)).length:Nat):Int) from rfl),hg]
    try rfl
   ·simp only [xE h]
    rw [if_neg (fun e=>by cases e)]
    unfold pY
    rw [if_neg h.1,if_neg h.2.2.2.1,if_neg h.2.2.2.2.2.1,if_neg h.2.2.2.2.2.2.2.2.2.2.1,if_neg h.2.2.2.2.2.2.2.2.2.2.2]
    rfl
  | [a,b],_ =>
   rcases oW w with rfl|rfl|rfl|rfl|rfl|rfl|rfl|rfl|rfl|rfl|rfl|rfl|h
   ·simp only [zP,aS2]
    rfl
   ·simp only [u6,aPE]
    rfl
   ·exact hm ⟨3,a,0,b⟩ (fun q=>kF q a) (fun q h=>by
     obtain ⟨r,hr⟩:=nO (by simp) h
     exact ⟨rfl,by simp only [hr]; rfl⟩)
   ·simp only [pF,aK9]
    rfl
   ·exact hm ⟨5,a,0,b⟩ (fun q=>kF q a) (fun q h=>by
     obtain ⟨r,hr⟩:=nO (by simp) h
     exact ⟨rfl,by simp only [hr]; rfl⟩)
   ·simp only [aEq,aUA]
    rfl
   ·simp only [aBy,aUy]
    rfl
   ·simp only [aC8,aUe]
    rfl
   ·simp only [nI,aLr]
    rfl
   ·simp only [w4,aSb]
    rfl
   ·simp only [xH,aSC]
    rfl
   ·simp only [wN,aSg]
    rfl
   ·simp only [xE h]
    rw [if_neg (fun e=>by cases e)]
    unfold rH
    rw [if_neg h.2.2.1,if_neg h.2.2.2.2.1]
    rfl
  | [a,b,c],_ =>
   rcases oW w with rfl|rfl|rfl|rfl|rfl|rfl|rfl|rfl|rfl|rfl|rfl|rfl|h
   ·simp only [zP]
    rfl
   ·exact hm ⟨2,a,b,c⟩ (fun q=>kF q a) (fun q h=>by
     obtain ⟨r,hr⟩:=nO (by simp) h
     exact ⟨rfl,by simp only [hr]; rfl⟩)
   ·simp only [zT]
    rfl
   ·simp only [pF]
    rfl
   ·simp only [vC]
    rfl
   ·simp only [aEq]
    rfl
   ·simp only [aBy]
    rfl
   ·simp only [aC8]
    rfl
   ·simp only [nI]
    rfl
   ·simp only [w4]
    rfl
   ·simp only [xH]
    rfl
   ·simp only [wN]
    rfl
   ·simp only [xE h]
    rw [if_neg h.2.1,if_neg (show ¬ (none:Option Int)=some _ from fun e=>by cases e)]
    rfl
  | a :: b :: c :: d :: r,_ =>
   have hlen:∀ m:Int,m<=3->¬ (some m:Option Int)=some (((a :: b :: c :: d :: r).length:Nat):Int):=fun m hm e=>by
    injection e with e
    simp only [aL] at e
    omega
   rcases oW w with rfl|rfl|rfl|rfl|rfl|rfl|rfl|rfl|rfl|rfl|rfl|rfl|h
   ·simp only [zP]
    rw [if_neg (hlen _ (by decide))]
    rfl
   ·simp only [u6]
    rw [if_neg (hlen _ (by decide))]
    rfl
   ·simp only [zT]
    rw [if_neg (hlen _ (by decide))]
    rfl
   ·simp only [pF]
    rw [if_neg (hlen _ (by decide))]
    rfl
   ·simp only [vC]
    rw [if_neg (hlen _ (by decide))]
    rfl
   ·simp only [aEq]
    rw [if_neg (hlen _ (by decide))]
    rfl
   ·simp only [aBy]
    rw [if_neg (hlen _ (by decide))]
    rfl
   ·simp only [aC8]
    rw [if_neg (hlen _ (by decide))]
    rfl
   ·simp only [nI]
    rw [if_neg (hlen _ (by decide))]
    rfl
   ·simp only [w4]
    rw [if_neg (hlen _ (by decide))]
    rfl
   ·simp only [xH]
    rw [if_neg (hlen _ (by decide))]
    rfl
   ·simp only [wN]
    rw [if_neg (hlen _ (by decide))]
    rfl
   ·simp only [xE h]
    rw [if_neg (fun e=>by cases e)]
    rfl
end Go.Pe.Tryz
namespace Go.Pe.Tryz
open Go.Proofs.Tryz
theorem lA:decide ((1:Int) < 0)=false:=by decide
end Go.Pe.Tryz
