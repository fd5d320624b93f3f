/- Steps of an office: the reference's l25Act; walked; Steps of an office: the reference's l25Make; walked; Steps of an office: the reference's StepOffice and RunOffice; walked; Steps of an office: the law of StepOffice; Runs of steps of an office: the reference's RunOffice; walked; Runs of steps of an office: the law of RunOffice; Runs of steps of an office: the law of RunOffice, walked; Numbers read out of texts, as plain lists of bytes; a text cut at several bytes; Numbers read out of texts; texts cut: walked; A console's answers, as plain lists: the program's road and the reference's agree; A new office, and what the laws do with its parts, walked; The law of NewConsole, walked -/
import Derived.Test.YtjmobminbckhjaaGreatDoorW4
import Derived.Test.YtjmobminbckhjaaGreatDoorPeD
import Derived.Test.YtjmobminbckhjaaGreatDoorMc1
import Derived.Test.YtjmobminbckhjaaGreatDoorMc2
import Derived.Test.YtjmobminbckhjaaGreatDoorMc3
import Derived.Test.YtjmobminbckhjaaGreatDoorMc4
import Derived.Test.YtjmobminbckhjaaGreatDoorMc5
import Derived.Test.YtjmobminbckhjaaGreatDoorMc6
import Derived.Test.YtjmobminbckhjaaGreatDoorMc7
import Derived.Test.YtjmobminbckhjaaGreatDoorMc8
import Derived.Test.YtjmobminbckhjaaGreatDoorW1
import Derived.Test.YtjmobminbckhjaaGreatDoorW2
set_option maxRecDepth 100000
set_option maxHeartbeats 4000000
set_option linter.all false
open And renaming intro->aC
open Bool renaming false_and->aE, and_eq_true->aG, true_and->aJ, false_eq_true->aQ, and_true->aZ
open Int renaming toNat_natCast->aB
open List renaming cons_append->aF, mem_of_getElem?->aH, nil_append->aI, all_eq_true->aK, length_cons->aL, length_pos_iff->aM, take_length->aN, drop_succ_cons->aP, mem_of_mem_eraseIdx->aR, length_eraseIdx_le->aS, mem_append->aT, mem_singleton->aV, drop_left'->aW, drop_drop->aX
open Nat renaming reduceBEq->aA, le_refl->aO, pow_le_pow_right->aU, add_assoc->aY, add_comm->a6, reduceEqDiff->a7, reduceAdd->a8, reduceSub->bA, reduceLT->bB
open Option renaming map_some->aD
namespace Go.Pe.Tryz
open Go.Proofs.Tryz
def aBc (o:Off) (x:Cs) (i:Nat) (a:Nat) (l:List Ob):St:=⟨[(1,.d (.int .i64 i)),(2,.d (.ptr o.s)),(4,.ptr 1 0 []),(6,.ptr a 0 []),(7,.d (.ptr x.s))],.dead :: .box zO :: (l ++ [.box (dU o (.sl true 4 (dl Cs.s o.cs)) (.sl true 1 (dl D.str o.led)))])⟩
theorem aCb {s:St} (q:Nat) {x y:D} (hq:s.o[q]?=some (.box x)) (hy:x.unown=y):gO s ⟨cL q y s.e,s.o.set q .dead⟩:=hy ▸ gI q hq
theorem aKj (o:Off) (i:Nat) (x:Cs) (ho:dP o=true) (hr:o.cs[i]?=some x):Fn prog 171 [o.s,.int .i64 i] (fun rs=>rs=[(lJ o i x).w,.bool (eE o x && dP (lJ o i x))]):=by
 have ho0:=fB ho
 have hp:=eM ho
 have hO:=kD o ho0
 have hno:o.w.noOwn=false:=by simp [Off.w,dU,D.noOwn]
 have hwV:o.w.isV=true:=rfl
 have hwS:o.w.size=5:=rfl
 have h0:(0:Int)<=(i:Int):=by omega
 refine cW aQU [[1,1,1,0,1,0,1,1,1,1,0],[1,1,0],[1,0]] ?_
 dsimp only [aQU,cT,c7]
 repeat' (first|(simp only [aWv,aWw,aWz,hno,hwV,hwS,↓dF,cJ,↓wA,↓wC,wB,cL,cK,a7,a8,bA,reduceIte,reduceCtorEq,aA,bB,dE])|((first|apply cG|apply cH|apply cF)<;>intro h<;>try simp only [h]))
 refine c8 (gI 0 rfl) ?_
 simp only [cL,cK,aWu,↓wA,↓wC,wB,cL,cK,a7,a8,bA,reduceIte,reduceCtorEq,aA,bB,dE]
 have hfa:∀ K:SV->Prop,dG 1 1 (.d (.ptr o.s)) K=K (.d (.ptr (.sl false 4 (dl Cs.s o.cs)))):=fun K=>by simp [Off.s,dU,dG,D.pre,D.nth,D.size]
 simp only [hfa,hr,h0,cO,c6,aB,aD,cX,aWv,aWw,aWz,hno,hwV,hwS,↓dF,↓iI,cJ,aWE,aWC,↓wA,↓wC,wB,cL,cK,a7,a8,bA,reduceIte,reduceCtorEq,aA,bB,dE]
 refine aRt (fun s=>gO s (aBc o x i 2 [])\/gO s (aBc o x i 3 [.dead])\/gO s (aBc o x i 4 [.dead,.dead])) ?_ ?_
 ·repeat' (first
   |(with_reducible refine aC ?_ ?_)
   |(refine cI hO (by simp [dB,dI,aWu]) rfl ?_)
   |(refine cM hO (by simp [dB,dI,aWu]) rfl ?_)
   |(simp only [hno,hwV,hwS,aWv,aWw,aWz,aWF,aWE,aWC,cJ,↓wA,↓wC,wB,cL,cK,a7,a8,bA,reduceIte,reduceCtorEq,aA,bB,dE]))
  all_goals (first
   | exact .inl ((aCb 3 rfl (aWD x)).trans (cU _ rfl ⟨⟨rfl,rfl⟩,⟨rfl,rfl⟩,⟨rfl,rfl⟩,⟨rfl,rfl⟩,⟨rfl,rfl⟩,trivial⟩))
   | exact .inl ((aCb 4 rfl (aWD x)).trans (cU _ rfl ⟨⟨rfl,rfl⟩,⟨rfl,rfl⟩,⟨rfl,rfl⟩,⟨rfl,rfl⟩,⟨rfl,rfl⟩,trivial⟩))
   | exact .inr (.inl ((aCb 2 rfl (aWD x)).trans (cU _ rfl ⟨⟨rfl,rfl⟩,⟨rfl,rfl⟩,⟨rfl,rfl⟩,⟨rfl,rfl⟩,⟨rfl,rfl⟩,trivial⟩)))
   | exact .inr (.inl ((aCb 4 rfl (aWD x)).trans (cU _ rfl ⟨⟨rfl,rfl⟩,⟨rfl,rfl⟩,⟨rfl,rfl⟩,⟨rfl,rfl⟩,⟨rfl,rfl⟩,trivial⟩)))
   | exact .inr (.inr ((aCb 2 rfl (aWD x)).trans (cU _ rfl ⟨⟨rfl,rfl⟩,⟨rfl,rfl⟩,⟨rfl,rfl⟩,⟨rfl,rfl⟩,⟨rfl,rfl⟩,trivial⟩)))
   | exact .inr (.inr ((aCb 3 rfl (aWD x)).trans (cU _ rfl ⟨⟨rfl,rfl⟩,⟨rfl,rfl⟩,⟨rfl,rfl⟩,⟨rfl,rfl⟩,⟨rfl,rfl⟩,trivial⟩))))
 ·have hil:=cV hr
  have hfx:∀ K:SV->Prop,dG 1 1 (.d (.ptr x.s)) K=K (.d (.ptr (.int .i64 x.a))):=fun K=>by simp [Cs.s,Cs.p,dG,D.pre,D.nth,D.size]
  have hf2:∀ K:SV->Prop,dG 2 2 (.d (.ptr o.s)) K=K (.d (.ptr (.int .i64 o.kept))):=fun K=>by simp [Off.s,dU,dG,D.pre,D.nth,D.size]
  have hf3:∀ K:SV->Prop,dG 3 3 (.d (.ptr o.s)) K=K (.d (.ptr (.int .i64 o.moved))):=fun K=>by simp [Off.s,dU,dG,D.pre,D.nth,D.size]
  have hf0:∀ K:SV->Prop,dG 0 0 (.d (.ptr o.s)) K=K (.d (.ptr (.int .i64 o.day))):=fun K=>by simp [Off.s,dU,dG,D.pre,D.nth,D.size]
  have hx2:∀ K:SV->Prop,dG 2 2 (.d (.ptr x.s)) K=K (.d (.ptr (.int .i64 x.d))):=fun K=>by simp [Cs.s,Cs.p,dG,D.pre,D.nth,D.size]
  have hx0:∀ K:SV->Prop,dG 0 0 (.d (.ptr x.s)) K=K (.d (.ptr (.int .i64 x.i))):=fun K=>by simp [Cs.s,Cs.p,dG,D.pre,D.nth,D.size]
  have hx3:∀ K:SV->Prop,dG 3 3 (.d (.ptr x.s)) K=K (.d (.ptr (.sl false 1 (dl iD x.h)))):=fun K=>by simp [Cs.s,Cs.p,dG,D.pre,D.nth,D.size]
  have hs1:(dl Cs.s o.cs).sub 0 i=dl Cs.s (o.cs.take i):=by rw [qB]; rfl
  have hs2:(dl Cs.s o.cs).sub (i + 1) o.cs.length=dl Cs.s (o.cs.drop (i + 1)):=by rw [qB,aN]
  have htn:((i:Int) + 1).toNat=i + 1:=by omega
  have happ:(dl Cs.s (o.cs.take i)).app (dl Cs.s (o.cs.drop (i + 1)))=dl Cs.s (o.cs.eraseIdx i):=by rw [w6,List.eraseIdx_eq_take_drop_succ]
  have hl1:(o.cs.take i).length=i:=by simp; omega
  have hl2:(o.cs.drop (i + 1)).length=o.cs.length - (i + 1):=by simp
  have hok:(lJ o i x).ok0:=by
   have hle:o9 (o.cs.eraseIdx i):=⟨by have:=aS o.cs i; omega,fun y hy=>ho0.1.2 y (aR hy)⟩
   unfold lJ
   split
   ·exact ⟨hle,ho0.2⟩
   ·split
    ·exact ⟨hle,ho0.2⟩
    ·refine ⟨hle,by simp; omega,fun s hs=>?_⟩
     have hxc:=fF (hp.2.2.2.2.2.2.2.2.2 x (aH hr))
     rcases aT.1 hs with hs|hs
     ·exact ho0.2.2 s hs
     ·rw [aV.1 hs]
      have h1:=eT x.i (by simp only [dW]; omega)
      have h2:=eT o.day (by simp only [dW]; omega)
      simp [mF]; omega
  have hG:=f8 (lJ o i x) hok
  cases k1:decide (x.a=1) with
  | true =>
   have ha:=k1
   have k2:=k1
   have hu:(D.st (.cons (.int .i64 o.day) (.cons (.sl true 4 (dl Cs.s (o.cs.eraseIdx i))) (.cons (.int .i64 (o.kept + 1)) (.cons (.int .i64 o.moved) (.cons (.sl true 1 (dl D.str o.led)) .nil)))))).unown=(lJ o i x).s:=by
    unfold lJ
    rw [if_pos (of_decide_eq_true k1)]
    simp [Off.s,dU,D.unown,fS,fA]
   have hwE:(D.st (.cons (.int .i64 o.day) (.cons (.sl true 4 (dl Cs.s (o.cs.eraseIdx i))) (.cons (.int .i64 (o.kept + 1)) (.cons (.int .i64 o.moved) (.cons (.sl true 1 (dl D.str o.led)) .nil))))))=(lJ o i x).w:=by
    unfold lJ
    rw [if_pos (of_decide_eq_true k1)]
    rfl
   rintro s' (h|h|h)
   ·refine ⟨_,h,?_⟩
    simp only [aBc,aF,aI,↓wA,↓wC,wB,cL,cK,a7,a8,bA,reduceIte,reduceCtorEq,aA,bB,dE]
    refine c8 (freeze 2 none [1] (x:=.sl true 4 (dl Cs.s o.cs)) rfl rfl rfl) ?_
    simp only [dY,dU,D.unown,fS,↓wA,↓wC,wB,cL,cK,a7,a8,bA,reduceIte,reduceCtorEq,aA,bB,dE]
    cases hdd:decide (x.d<=o.day) with
    | true =>
     have hdb:eE o x=true:=by simp [eE,of_decide_eq_true hdd,of_decide_eq_true k1]
     repeat' (first|(simp only [cJ,dO,cO,cX,cR,hfx,hf0,hf2,hf3,hx0,hx2,hx3,aB,htn,hs1,hs2,happ,hl1,hl2,ha,hdd,k1,k2,↓wA,↓wC,wB,cL,cK,a7,a8,bA,reduceIte,reduceCtorEq,aA,bB,dE])|(refine dL ?_)|(with_reducible refine aC ?_ ?_)|(with_reducible refine cQ ?_ ?_; focus omega)|(with_reducible refine cP ?_ ?_; focus (simp only [dW]; omega))|(refine cI hG (congrArg (fun d:D=>some [d]) hu) rfl ?_)|(refine cM hG (congrArg (fun d:D=>some [d]) hu) rfl ?_)|((first|apply cG|apply cH|apply cF)<;>intro h<;>try simp only [h]))
     all_goals (refine cQ rfl ?_; rw [hwE,hdb,aJ])
    | false =>
     have hdb:eE o x=false:=by simp [eE,of_decide_eq_false hdd]
     repeat' (first|(simp only [cJ,dO,cO,cX,cR,hfx,hf0,hf2,hf3,hx0,hx2,hx3,aB,htn,hs1,hs2,happ,hl1,hl2,ha,hdd,k1,k2,↓wA,↓wC,wB,cL,cK,a7,a8,bA,reduceIte,reduceCtorEq,aA,bB,dE])|(refine dL ?_)|(with_reducible refine aC ?_ ?_)|(with_reducible refine cQ ?_ ?_; focus omega)|(with_reducible refine cP ?_ ?_; focus (simp only [dW]; omega))|(refine cI hG (congrArg (fun d:D=>some [d]) hu) rfl ?_)|(refine cM hG (congrArg (fun d:D=>some [d]) hu) rfl ?_)|((first|apply cG|apply cH|apply cF)<;>intro h<;>try simp only [h]))
     all_goals (refine cQ rfl ?_; rw [hwE,hdb,aE])
   ·refine ⟨_,h,?_⟩
    simp only [aBc,aF,aI,↓wA,↓wC,wB,cL,cK,a7,a8,bA,reduceIte,reduceCtorEq,aA,bB,dE]
    refine c8 (freeze 3 none [1] (x:=.sl true 4 (dl Cs.s o.cs)) rfl rfl rfl) ?_
    simp only [dY,dU,D.unown,fS,↓wA,↓wC,wB,cL,cK,a7,a8,bA,reduceIte,reduceCtorEq,aA,bB,dE]
    cases hdd:decide (x.d<=o.day) with
    | true =>
     have hdb:eE o x=true:=by simp [eE,of_decide_eq_true hdd,of_decide_eq_true k1]
     repeat' (first|(simp only [cJ,dO,cO,cX,cR,hfx,hf0,hf2,hf3,hx0,hx2,hx3,aB,htn,hs1,hs2,happ,hl1,hl2,ha,hdd,k1,k2,↓wA,↓wC,wB,cL,cK,a7,a8,bA,reduceIte,reduceCtorEq,aA,bB,dE])|(refine dL ?_)|(with_reducible refine aC ?_ ?_)|(with_reducible refine cQ ?_ ?_; focus omega)|(with_reducible refine cP ?_ ?_; focus (simp only [dW]; omega))|(refine cI hG (congrArg (fun d:D=>some [d]) hu) rfl ?_)|(refine cM hG (congrArg (fun d:D=>some [d]) hu) rfl ?_)|((first|apply cG|apply cH|apply cF)<;>intro h<;>try simp only [h]))
     all_goals (refine cQ rfl ?_; rw [hwE,hdb,aJ])
    | false =>
     have hdb:eE o x=false:=by simp [eE,of_decide_eq_false hdd]
     repeat' (first|(simp only [cJ,dO,cO,cX,cR,hfx,hf0,hf2,hf3,hx0,hx2,hx3,aB,htn,hs1,hs2,happ,hl1,hl2,ha,hdd,k1,k2,↓wA,↓wC,wB,cL,cK,a7,a8,bA,reduceIte,reduceCtorEq,aA,bB,dE])|(refine dL ?_)|(with_reducible refine aC ?_ ?_)|(with_reducible refine cQ ?_ ?_; focus omega)|(with_reducible refine cP ?_ ?_; focus (simp only [dW]; omega))|(refine cI hG (congrArg (fun d:D=>some [d]) hu) rfl ?_)|(refine cM hG (congrArg (fun d:D=>some [d]) hu) rfl ?_)|((first|apply cG|apply cH|apply cF)<;>intro h<;>try simp only [h]))
     all_goals (refine cQ rfl ?_; rw [hwE,hdb,aE])
   ·refine ⟨_,h,?_⟩
    simp only [aBc,aF,aI,↓wA,↓wC,wB,cL,cK,a7,a8,bA,reduceIte,reduceCtorEq,aA,bB,dE]
    refine c8 (freeze 4 none [1] (x:=.sl true 4 (dl Cs.s o.cs)) rfl rfl rfl) ?_
    simp only [dY,dU,D.unown,fS,↓wA,↓wC,wB,cL,cK,a7,a8,bA,reduceIte,reduceCtorEq,aA,bB,dE]
    cases hdd:decide (x.d<=o.day) with
    | true =>
     have hdb:eE o x=true:=by simp [eE,of_decide_eq_true hdd,of_decide_eq_true k1]
     repeat' (first|(simp only [cJ,dO,cO,cX,cR,hfx,hf0,hf2,hf3,hx0,hx2,hx3,aB,htn,hs1,hs2,happ,hl1,hl2,ha,hdd,k1,k2,↓wA,↓wC,wB,cL,cK,a7,a8,bA,reduceIte,reduceCtorEq,aA,bB,dE])|(refine dL ?_)|(with_reducible refine aC ?_ ?_)|(with_reducible refine cQ ?_ ?_; focus omega)|(with_reducible refine cP ?_ ?_; focus (simp only [dW]; omega))|(refine cI hG (congrArg (fun d:D=>some [d]) hu) rfl ?_)|(refine cM hG (congrArg (fun d:D=>some [d]) hu) rfl ?_)|((first|apply cG|apply cH|apply cF)<;>intro h<;>try simp only [h]))
     all_goals (refine cQ rfl ?_; rw [hwE,hdb,aJ])
    | false =>
     have hdb:eE o x=false:=by simp [eE,of_decide_eq_false hdd]
     repeat' (first|(simp only [cJ,dO,cO,cX,cR,hfx,hf0,hf2,hf3,hx0,hx2,hx3,aB,htn,hs1,hs2,happ,hl1,hl2,ha,hdd,k1,k2,↓wA,↓wC,wB,cL,cK,a7,a8,bA,reduceIte,reduceCtorEq,aA,bB,dE])|(refine dL ?_)|(with_reducible refine aC ?_ ?_)|(with_reducible refine cQ ?_ ?_; focus omega)|(with_reducible refine cP ?_ ?_; focus (simp only [dW]; omega))|(refine cI hG (congrArg (fun d:D=>some [d]) hu) rfl ?_)|(refine cM hG (congrArg (fun d:D=>some [d]) hu) rfl ?_)|((first|apply cG|apply cH|apply cF)<;>intro h<;>try simp only [h]))
     all_goals (refine cQ rfl ?_; rw [hwE,hdb,aE])
  | false =>
   have k1':=of_decide_eq_false k1
   cases k2:decide (x.a=2) with
   | true =>
    have ha:=k2
    have hu:(D.st (.cons (.int .i64 o.day) (.cons (.sl true 4 (dl Cs.s (o.cs.eraseIdx i))) (.cons (.int .i64 o.kept) (.cons (.int .i64 (o.moved + 1)) (.cons (.sl true 1 (dl D.str o.led)) .nil)))))).unown=(lJ o i x).s:=by
     unfold lJ
     rw [if_neg k1',if_pos (of_decide_eq_true k2)]
     simp [Off.s,dU,D.unown,fS,fA]
    have hwE:(D.st (.cons (.int .i64 o.day) (.cons (.sl true 4 (dl Cs.s (o.cs.eraseIdx i))) (.cons (.int .i64 o.kept) (.cons (.int .i64 (o.moved + 1)) (.cons (.sl true 1 (dl D.str o.led)) .nil))))))=(lJ o i x).w:=by
     unfold lJ
     rw [if_neg k1',if_pos (of_decide_eq_true k2)]
     rfl
    rintro s' (h|h|h)
    ·refine ⟨_,h,?_⟩
     simp only [aBc,aF,aI,↓wA,↓wC,wB,cL,cK,a7,a8,bA,reduceIte,reduceCtorEq,aA,bB,dE]
     refine c8 (freeze 2 none [1] (x:=.sl true 4 (dl Cs.s o.cs)) rfl rfl rfl) ?_
     simp only [dY,dU,D.unown,fS,↓wA,↓wC,wB,cL,cK,a7,a8,bA,reduceIte,reduceCtorEq,aA,bB,dE]
     cases hdd:decide (x.d<=o.day) with
     | true =>
      have hdb:eE o x=true:=by simp [eE,of_decide_eq_true hdd,of_decide_eq_true k2]
      repeat' (first|(simp only [cJ,dO,cO,cX,cR,hfx,hf0,hf2,hf3,hx0,hx2,hx3,aB,htn,hs1,hs2,happ,hl1,hl2,ha,hdd,k1,k2,↓wA,↓wC,wB,cL,cK,a7,a8,bA,reduceIte,reduceCtorEq,aA,bB,dE])|(refine dL ?_)|(with_reducible refine aC ?_ ?_)|(with_reducible refine cQ ?_ ?_; focus omega)|(with_reducible refine cP ?_ ?_; focus (simp only [dW]; omega))|(refine cI hG (congrArg (fun d:D=>some [d]) hu) rfl ?_)|(refine cM hG (congrArg (fun d:D=>some [d]) hu) rfl ?_)|((first|apply cG|apply cH|apply cF)<;>intro h<;>try simp only [h]))
      all_goals (refine cQ rfl ?_; rw [hwE,hdb,aJ])
     | false =>
      have hdb:eE o x=false:=by simp [eE,of_decide_eq_false hdd]
      repeat' (first|(simp only [cJ,dO,cO,cX,cR,hfx,hf0,hf2,hf3,hx0,hx2,hx3,aB,htn,hs1,hs2,happ,hl1,hl2,ha,hdd,k1,k2,↓wA,↓wC,wB,cL,cK,a7,a8,bA,reduceIte,reduceCtorEq,aA,bB,dE])|(refine dL ?_)|(with_reducible refine aC ?_ ?_)|(with_reducible refine cQ ?_ ?_; focus omega)|(with_reducible refine cP ?_ ?_; focus (simp only [dW]; omega))|(refine cI hG (congrArg (fun d:D=>some [d]) hu) rfl ?_)|(refine cM hG (congrArg (fun d:D=>some [d]) hu) rfl ?_)|((first|apply cG|apply cH|apply cF)<;>intro h<;>try simp only [h]))
      all_goals (refine cQ rfl ?_; rw [hwE,hdb,aE])
    ·refine ⟨_,h,?_⟩
     simp only [aBc,aF,aI,↓wA,↓wC,wB,cL,cK,a7,a8,bA,reduceIte,reduceCtorEq,aA,bB,dE]
     refine c8 (freeze 3 none [1] (x:=.sl true 4 (dl Cs.s o.cs)) rfl rfl rfl) ?_
     simp only [dY,dU,D.unown,fS,↓wA,↓wC,wB,cL,cK,a7,a8,bA,reduceIte,reduceCtorEq,aA,bB,dE]
     cases hdd:decide (x.d<=o.day) with
     | true =>
      have hdb:eE o x=true:=by simp [eE,of_decide_eq_true hdd,of_decide_eq_true k2]
      repeat' (first|(simp only [cJ,dO,cO,cX,cR,hfx,hf0,hf2,hf3,hx0,hx2,hx3,aB,htn,hs1,hs2,happ,hl1,hl2,ha,hdd,k1,k2,↓wA,↓wC,wB,cL,cK,a7,a8,bA,reduceIte,reduceCtorEq,aA,bB,dE])|(refine dL ?_)|(with_reducible refine aC ?_ ?_)|(with_reducible refine cQ ?_ ?_; focus omega)|(with_reducible refine cP ?_ ?_; focus (simp only [dW]; omega))|(refine cI hG (congrArg (fun d:D=>some [d]) hu) rfl ?_)|(refine cM hG (congrArg (fun d:D=>some [d]) hu) rfl ?_)|((first|apply cG|apply cH|apply cF)<;>intro h<;>try simp only [h]))
      all_goals (refine cQ rfl ?_; rw [hwE,hdb,aJ])
     | false =>
      have hdb:eE o x=false:=by simp [eE,of_decide_eq_false hdd]
      repeat' (first|(simp only [cJ,dO,cO,cX,cR,hfx,hf0,hf2,hf3,hx0,hx2,hx3,aB,htn,hs1,hs2,happ,hl1,hl2,ha,hdd,k1,k2,↓wA,↓wC,wB,cL,cK,a7,a8,bA,reduceIte,reduceCtorEq,aA,bB,dE])|(refine dL ?_)|(with_reducible refine aC ?_ ?_)|(with_reducible refine cQ ?_ ?_; focus omega)|(with_reducible refine cP ?_ ?_; focus (simp only [dW]; omega))|(refine cI hG (congrArg (fun d:D=>some [d]) hu) rfl ?_)|(refine cM hG (congrArg (fun d:D=>some [d]) hu) rfl ?_)|((first|apply cG|apply cH|apply cF)<;>intro h<;>try simp only [h]))
      all_goals (refine cQ rfl ?_; rw [hwE,hdb,aE])
    ·refine ⟨_,h,?_⟩
     simp only [aBc,aF,aI,↓wA,↓wC,wB,cL,cK,a7,a8,bA,reduceIte,reduceCtorEq,aA,bB,dE]
     refine c8 (freeze 4 none [1] (x:=.sl true 4 (dl Cs.s o.cs)) rfl rfl rfl) ?_
     simp only [dY,dU,D.unown,fS,↓wA,↓wC,wB,cL,cK,a7,a8,bA,reduceIte,reduceCtorEq,aA,bB,dE]
     cases hdd:decide (x.d<=o.day) with
     | true =>
      have hdb:eE o x=true:=by simp [eE,of_decide_eq_true hdd,of_decide_eq_true k2]
      repeat' (first|(simp only [cJ,dO,cO,cX,cR,hfx,hf0,hf2,hf3,hx0,hx2,hx3,aB,htn,hs1,hs2,happ,hl1,hl2,ha,hdd,k1,k2,↓wA,↓wC,wB,cL,cK,a7,a8,bA,reduceIte,reduceCtorEq,aA,bB,dE])|(refine dL ?_)|(with_reducible refine aC ?_ ?_)|(with_reducible refine cQ ?_ ?_; focus omega)|(with_reducible refine cP ?_ ?_; focus (simp only [dW]; omega))|(refine cI hG (congrArg (fun d:D=>some [d]) hu) rfl ?_)|(refine cM hG (congrArg (fun d:D=>some [d]) hu) rfl ?_)|((first|apply cG|apply cH|apply cF)<;>intro h<;>try simp only [h]))
      all_goals (refine cQ rfl ?_; rw [hwE,hdb,aJ])
     | false =>
      have hdb:eE o x=false:=by simp [eE,of_decide_eq_false hdd]
      repeat' (first|(simp only [cJ,dO,cO,cX,cR,hfx,hf0,hf2,hf3,hx0,hx2,hx3,aB,htn,hs1,hs2,happ,hl1,hl2,ha,hdd,k1,k2,↓wA,↓wC,wB,cL,cK,a7,a8,bA,reduceIte,reduceCtorEq,aA,bB,dE])|(refine dL ?_)|(with_reducible refine aC ?_ ?_)|(with_reducible refine cQ ?_ ?_; focus omega)|(with_reducible refine cP ?_ ?_; focus (simp only [dW]; omega))|(refine cI hG (congrArg (fun d:D=>some [d]) hu) rfl ?_)|(refine cM hG (congrArg (fun d:D=>some [d]) hu) rfl ?_)|((first|apply cG|apply cH|apply cF)<;>intro h<;>try simp only [h]))
      all_goals (refine cQ rfl ?_; rw [hwE,hdb,aE])
   | false =>
    have k2':=of_decide_eq_false k2
    have hxc:=fF (hp.2.2.2.2.2.2.2.2.2 x (aH hr))
    have hN1:=fR x.i (by omega) (by simp only [dW]; omega)
    have hN2:=fR o.day (by omega) (by simp only [dW]; omega)
    have hI1:=eT x.i (by simp only [dW]; omega)
    have hI2:=eT o.day (by simp only [dW]; omega)
    have hE:114 :: (Lib.itoa x.i ++ 32 :: 100 :: Lib.itoa o.day)=mF x.i o.day:=rfl
    have hu:(D.st (.cons (.int .i64 o.day) (.cons (.sl true 4 (dl Cs.s (o.cs.eraseIdx i))) (.cons (.int .i64 o.kept) (.cons (.int .i64 o.moved) (.cons (.sl true 1 (dl D.str (o.led ++ [mF x.i o.day]))) .nil)))))).unown=(lJ o i x).s:=by
     unfold lJ
     rw [if_neg k1',if_neg k2']
     simp [Off.s,dU,D.unown,fS,fA]
    have hwE:(D.st (.cons (.int .i64 o.day) (.cons (.sl true 4 (dl Cs.s (o.cs.eraseIdx i))) (.cons (.int .i64 o.kept) (.cons (.int .i64 o.moved) (.cons (.sl true 1 (dl D.str (o.led ++ [mF x.i o.day]))) .nil))))))=(lJ o i x).w:=by
     unfold lJ
     rw [if_neg k1',if_neg k2']
     rfl
    rintro s' (h|h|h)
    ·refine ⟨_,h,?_⟩
     simp only [aBc,aF,aI,↓wA,↓wC,wB,cL,cK,a7,a8,bA,reduceIte,reduceCtorEq,aA,bB,dE]
     refine c8 (freeze 2 none [1] (x:=.sl true 4 (dl Cs.s o.cs)) rfl rfl rfl) ?_
     simp only [dY,dU,D.unown,fS,↓wA,↓wC,wB,cL,cK,a7,a8,bA,reduceIte,reduceCtorEq,aA,bB,dE]
     repeat' (first|(simp only [cJ,dO,cO,cX,cR,hfx,hf0,hf2,hf3,hx0,hx2,hx3,aB,htn,hs1,hs2,happ,hl1,hl2,k1,k2,↓wA,↓wC,wB,cL,cK,a7,a8,bA,reduceIte,reduceCtorEq,aA,bB,dE])|(refine dL ?_)|(with_reducible refine cQ ?_ ?_; focus omega)|(with_reducible refine cP ?_ ?_; focus (simp only [dW]; omega))|((first|apply cG|apply cH|apply cF)<;>intro h<;>try simp only [h]))
     refine eI _ (e8 2 none [4] (es:=1) (xs:=dl D.str o.led) rfl rfl) fun v2=>?_
     simp only [dY,↓wA,↓wC,wB,cL,cK,a7,a8,bA,reduceIte,reduceCtorEq,aA,bB,dE]
     have happ2:(dl D.str o.led).app (D.cons (.str (mF x.i o.day)) .nil)=dl D.str (o.led ++ [mF x.i o.day]):=iM (f:=D.str) o.led _
     cases hdd:decide (x.d<=o.day) with
     | true =>
      have hdb:eE o x=decide (x.h.length=0):=by simp [eE,of_decide_eq_true hdd,k1',k2']
      cases hh:decide ((x.h.length:Int)=0) with
      | true =>
       have hdb2:eE o x=true:=by rw [hdb]; have:=of_decide_eq_true hh; exact decide_eq_true (by omega)
       repeat' (first|(simp only [cJ,dO,cO,cX,cR,cY,hfx,hf0,hf2,hf3,hx0,hx2,hx3,k1,k2,hdd,hh,hE,happ2,↓wA,↓wC,wB,cL,cK,a7,a8,bA,reduceIte,reduceCtorEq,aA,bB,dE])|(refine cI (hN1) rfl rfl ?_)|(refine cM (hN1) rfl rfl ?_)|(refine cI (hN2) rfl rfl ?_)|(refine cM (hN2) rfl rfl ?_)|(refine dL ?_)|(with_reducible refine aC ?_ ?_)|(with_reducible refine cQ ?_ ?_; focus omega)|(with_reducible refine cQ ?_ ?_; focus (simp; done))|(with_reducible refine cP ?_ ?_; focus (simp only [dW]; omega))|(refine cI hG (congrArg (fun d:D=>some [d]) hu) rfl ?_)|(refine cM hG (congrArg (fun d:D=>some [d]) hu) rfl ?_)|((first|apply cG|apply cH|apply cF)<;>intro h<;>try simp only [h]))
       all_goals (refine cQ rfl ?_; rw [hwE,hdb2,aJ])
      | false =>
       have hdb2:eE o x=false:=by rw [hdb]; have:=of_decide_eq_false hh; exact decide_eq_false (by omega)
       repeat' (first|(simp only [cJ,dO,cO,cX,cR,cY,hfx,hf0,hf2,hf3,hx0,hx2,hx3,k1,k2,hdd,hh,hE,happ2,↓wA,↓wC,wB,cL,cK,a7,a8,bA,reduceIte,reduceCtorEq,aA,bB,dE])|(refine cI (hN1) rfl rfl ?_)|(refine cM (hN1) rfl rfl ?_)|(refine cI (hN2) rfl rfl ?_)|(refine cM (hN2) rfl rfl ?_)|(refine dL ?_)|(with_reducible refine aC ?_ ?_)|(with_reducible refine cQ ?_ ?_; focus omega)|(with_reducible refine cQ ?_ ?_; focus (simp; done))|(with_reducible refine cP ?_ ?_; focus (simp only [dW]; omega))|(refine cI hG (congrArg (fun d:D=>some [d]) hu) rfl ?_)|(refine cM hG (congrArg (fun d:D=>some [d]) hu) rfl ?_)|((first|apply cG|apply cH|apply cF)<;>intro h<;>try simp only [h]))
       all_goals (refine cQ rfl ?_; rw [hwE,hdb2,aE])
     | false =>
      have hdb2:eE o x=false:=by simp [eE,of_decide_eq_false hdd]
      repeat' (first|(simp only [cJ,dO,cO,cX,cR,cY,hfx,hf0,hf2,hf3,hx0,hx2,hx3,k1,k2,hdd,hE,happ2,↓wA,↓wC,wB,cL,cK,a7,a8,bA,reduceIte,reduceCtorEq,aA,bB,dE])|(refine cI (hN1) rfl rfl ?_)|(refine cM (hN1) rfl rfl ?_)|(refine cI (hN2) rfl rfl ?_)|(refine cM (hN2) rfl rfl ?_)|(refine dL ?_)|(with_reducible refine aC ?_ ?_)|(with_reducible refine cQ ?_ ?_; focus omega)|(with_reducible refine cQ ?_ ?_; focus (simp; done))|(with_reducible refine cP ?_ ?_; focus (simp only [dW]; omega))|(refine cI hG (congrArg (fun d:D=>some [d]) hu) rfl ?_)|(refine cM hG (congrArg (fun d:D=>some [d]) hu) rfl ?_)|((first|apply cG|apply cH|apply cF)<;>intro h<;>try simp only [h]))
      all_goals (refine cQ rfl ?_; rw [hwE,hdb2,aE])
    ·refine ⟨_,h,?_⟩
     simp only [aBc,aF,aI,↓wA,↓wC,wB,cL,cK,a7,a8,bA,reduceIte,reduceCtorEq,aA,bB,dE]
     refine c8 (freeze 3 none [1] (x:=.sl true 4 (dl Cs.s o.cs)) rfl rfl rfl) ?_
     simp only [dY,dU,D.unown,fS,↓wA,↓wC,wB,cL,cK,a7,a8,bA,reduceIte,reduceCtorEq,aA,bB,dE]
     repeat' (first|(simp only [cJ,dO,cO,cX,cR,hfx,hf0,hf2,hf3,hx0,hx2,hx3,aB,htn,hs1,hs2,happ,hl1,hl2,k1,k2,↓wA,↓wC,wB,cL,cK,a7,a8,bA,reduceIte,reduceCtorEq,aA,bB,dE])|(refine dL ?_)|(with_reducible refine cQ ?_ ?_; focus omega)|(with_reducible refine cP ?_ ?_; focus (simp only [dW]; omega))|((first|apply cG|apply cH|apply cF)<;>intro h<;>try simp only [h]))
     refine eI _ (e8 3 none [4] (es:=1) (xs:=dl D.str o.led) rfl rfl) fun v2=>?_
     simp only [dY,↓wA,↓wC,wB,cL,cK,a7,a8,bA,reduceIte,reduceCtorEq,aA,bB,dE]
     have happ2:(dl D.str o.led).app (D.cons (.str (mF x.i o.day)) .nil)=dl D.str (o.led ++ [mF x.i o.day]):=iM (f:=D.str) o.led _
     cases hdd:decide (x.d<=o.day) with
     | true =>
      have hdb:eE o x=decide (x.h.length=0):=by simp [eE,of_decide_eq_true hdd,k1',k2']
      cases hh:decide ((x.h.length:Int)=0) with
      | true =>
       have hdb2:eE o x=true:=by rw [hdb]; have:=of_decide_eq_true hh; exact decide_eq_true (by omega)
       repeat' (first|(simp only [cJ,dO,cO,cX,cR,cY,hfx,hf0,hf2,hf3,hx0,hx2,hx3,k1,k2,hdd,hh,hE,happ2,↓wA,↓wC,wB,cL,cK,a7,a8,bA,reduceIte,reduceCtorEq,aA,bB,dE])|(refine cI (hN1) rfl rfl ?_)|(refine cM (hN1) rfl rfl ?_)|(refine cI (hN2) rfl rfl ?_)|(refine cM (hN2) rfl rfl ?_)|(refine dL ?_)|(with_reducible refine aC ?_ ?_)|(with_reducible refine cQ ?_ ?_; focus omega)|(with_reducible refine cQ ?_ ?_; focus (simp; done))|(with_reducible refine cP ?_ ?_; focus (simp only [dW]; omega))|(refine cI hG (congrArg (fun d:D=>some [d]) hu) rfl ?_)|(refine cM hG (congrArg (fun d:D=>some [d]) hu) rfl ?_)|((first|apply cG|apply cH|apply cF)<;>intro h<;>try simp only [h]))
       all_goals (refine cQ rfl ?_; rw [hwE,hdb2,aJ])
      | false =>
       have hdb2:eE o x=false:=by rw [hdb]; have:=of_decide_eq_false hh; exact decide_eq_false (by omega)
       repeat' (first|(simp only [cJ,dO,cO,cX,cR,cY,hfx,hf0,hf2,hf3,hx0,hx2,hx3,k1,k2,hdd,hh,hE,happ2,↓wA,↓wC,wB,cL,cK,a7,a8,bA,reduceIte,reduceCtorEq,aA,bB,dE])|(refine cI (hN1) rfl rfl ?_)|(refine cM (hN1) rfl rfl ?_)|(refine cI (hN2) rfl rfl ?_)|(refine cM (hN2) rfl rfl ?_)|(refine dL ?_)|(with_reducible refine aC ?_ ?_)|(with_reducible refine cQ ?_ ?_; focus omega)|(with_reducible refine cQ ?_ ?_; focus (simp; done))|(with_reducible refine cP ?_ ?_; focus (simp only [dW]; omega))|(refine cI hG (congrArg (fun d:D=>some [d]) hu) rfl ?_)|(refine cM hG (congrArg (fun d:D=>some [d]) hu) rfl ?_)|((first|apply cG|apply cH|apply cF)<;>intro h<;>try simp only [h]))
       all_goals (refine cQ rfl ?_; rw [hwE,hdb2,aE])
     | false =>
      have hdb2:eE o x=false:=by simp [eE,of_decide_eq_false hdd]
      repeat' (first|(simp only [cJ,dO,cO,cX,cR,cY,hfx,hf0,hf2,hf3,hx0,hx2,hx3,k1,k2,hdd,hE,happ2,↓wA,↓wC,wB,cL,cK,a7,a8,bA,reduceIte,reduceCtorEq,aA,bB,dE])|(refine cI (hN1) rfl rfl ?_)|(refine cM (hN1) rfl rfl ?_)|(refine cI (hN2) rfl rfl ?_)|(refine cM (hN2) rfl rfl ?_)|(refine dL ?_)|(with_reducible refine aC ?_ ?_)|(with_reducible refine cQ ?_ ?_; focus omega)|(with_reducible refine cQ ?_ ?_; focus (simp; done))|(with_reducible refine cP ?_ ?_; focus (simp only [dW]; omega))|(refine cI hG (congrArg (fun d:D=>some [d]) hu) rfl ?_)|(refine cM hG (congrArg (fun d:D=>some [d]) hu) rfl ?_)|((first|apply cG|apply cH|apply cF)<;>intro h<;>try simp only [h]))
      all_goals (refine cQ rfl ?_; rw [hwE,hdb2,aE])
    ·refine ⟨_,h,?_⟩
     simp only [aBc,aF,aI,↓wA,↓wC,wB,cL,cK,a7,a8,bA,reduceIte,reduceCtorEq,aA,bB,dE]
     refine c8 (freeze 4 none [1] (x:=.sl true 4 (dl Cs.s o.cs)) rfl rfl rfl) ?_
     simp only [dY,dU,D.unown,fS,↓wA,↓wC,wB,cL,cK,a7,a8,bA,reduceIte,reduceCtorEq,aA,bB,dE]
     repeat' (first|(simp only [cJ,dO,cO,cX,cR,hfx,hf0,hf2,hf3,hx0,hx2,hx3,aB,htn,hs1,hs2,happ,hl1,hl2,k1,k2,↓wA,↓wC,wB,cL,cK,a7,a8,bA,reduceIte,reduceCtorEq,aA,bB,dE])|(refine dL ?_)|(with_reducible refine cQ ?_ ?_; focus omega)|(with_reducible refine cP ?_ ?_; focus (simp only [dW]; omega))|((first|apply cG|apply cH|apply cF)<;>intro h<;>try simp only [h]))
     refine eI _ (e8 4 none [4] (es:=1) (xs:=dl D.str o.led) rfl rfl) fun v2=>?_
     simp only [dY,↓wA,↓wC,wB,cL,cK,a7,a8,bA,reduceIte,reduceCtorEq,aA,bB,dE]
     have happ2:(dl D.str o.led).app (D.cons (.str (mF x.i o.day)) .nil)=dl D.str (o.led ++ [mF x.i o.day]):=iM (f:=D.str) o.led _
     cases hdd:decide (x.d<=o.day) with
     | true =>
      have hdb:eE o x=decide (x.h.length=0):=by simp [eE,of_decide_eq_true hdd,k1',k2']
      cases hh:decide ((x.h.length:Int)=0) with
      | true =>
       have hdb2:eE o x=true:=by rw [hdb]; have:=of_decide_eq_true hh; exact decide_eq_true (by omega)
       repeat' (first|(simp only [cJ,dO,cO,cX,cR,cY,hfx,hf0,hf2,hf3,hx0,hx2,hx3,k1,k2,hdd,hh,hE,happ2,↓wA,↓wC,wB,cL,cK,a7,a8,bA,reduceIte,reduceCtorEq,aA,bB,dE])|(refine cI (hN1) rfl rfl ?_)|(refine cM (hN1) rfl rfl ?_)|(refine cI (hN2) rfl rfl ?_)|(refine cM (hN2) rfl rfl ?_)|(refine dL ?_)|(with_reducible refine aC ?_ ?_)|(with_reducible refine cQ ?_ ?_; focus omega)|(with_reducible refine cQ ?_ ?_; focus (simp; done))|(with_reducible refine cP ?_ ?_; focus (simp only [dW]; omega))|(refine cI hG (congrArg (fun d:D=>some [d]) hu) rfl ?_)|(refine cM hG (congrArg (fun d:D=>some [d]) hu) rfl ?_)|((first|apply cG|apply cH|apply cF)<;>intro h<;>try simp only [h]))
       all_goals (refine cQ rfl ?_; rw [hwE,hdb2,aJ])
      | false =>
       have hdb2:eE o x=false:=by rw [hdb]; have:=of_decide_eq_false hh; exact decide_eq_false (by omega)
       repeat' (first|(simp only [cJ,dO,cO,cX,cR,cY,hfx,hf0,hf2,hf3,hx0,hx2,hx3,k1,k2,hdd,hh,hE,happ2,↓wA,↓wC,wB,cL,cK,a7,a8,bA,reduceIte,reduceCtorEq,aA,bB,dE])|(refine cI (hN1) rfl rfl ?_)|(refine cM (hN1) rfl rfl ?_)|(refine cI (hN2) rfl rfl ?_)|(refine cM (hN2) rfl rfl ?_)|(refine dL ?_)|(with_reducible refine aC ?_ ?_)|(with_reducible refine cQ ?_ ?_; focus omega)|(with_reducible refine cQ ?_ ?_; focus (simp; done))|(with_reducible refine cP ?_ ?_; focus (simp only [dW]; omega))|(refine cI hG (congrArg (fun d:D=>some [d]) hu) rfl ?_)|(refine cM hG (congrArg (fun d:D=>some [d]) hu) rfl ?_)|((first|apply cG|apply cH|apply cF)<;>intro h<;>try simp only [h]))
       all_goals (refine cQ rfl ?_; rw [hwE,hdb2,aE])
     | false =>
      have hdb2:eE o x=false:=by simp [eE,of_decide_eq_false hdd]
      repeat' (first|(simp only [cJ,dO,cO,cX,cR,cY,hfx,hf0,hf2,hf3,hx0,hx2,hx3,k1,k2,hdd,hE,happ2,↓wA,↓wC,wB,cL,cK,a7,a8,bA,reduceIte,reduceCtorEq,aA,bB,dE])|(refine cI (hN1) rfl rfl ?_)|(refine cM (hN1) rfl rfl ?_)|(refine cI (hN2) rfl rfl ?_)|(refine cM (hN2) rfl rfl ?_)|(refine dL ?_)|(with_reducible refine aC ?_ ?_)|(with_reducible refine cQ ?_ ?_; focus omega)|(with_reducible refine cQ ?_ ?_; focus (simp; done))|(with_reducible refine cP ?_ ?_; focus (simp only [dW]; omega))|(refine cI hG (congrArg (fun d:D=>some [d]) hu) rfl ?_)|(refine cM hG (congrArg (fun d:D=>some [d]) hu) rfl ?_)|((first|apply cG|apply cH|apply cF)<;>intro h<;>try simp only [h]))
      all_goals (refine cQ rfl ?_; rw [hwE,hdb2,aE])
def MkR (o:Off) (k id a v:Int) (rs:List D):Prop:=∃ q:Off,rs=[q.w,.bool (wL o k id a v).isSome]/\∀ q',wL o k id a v=some q'->q'=q
theorem aH1 {o q:Off} {k id a v:Int} (h:iG o k id a v=some q):wL o k id a v=if dP q=true then some q else none:=by
 unfold wL; rw [h]; rfl
theorem s4 {o q:Off} {k id a v:Int} (h:iG o k id a v=some q) {x:D} {b:Bool} (hx:x=q.w) (hb:b=dP q):MkR o k id a v [x,.bool b]:=by
 have hm:=aH1 h
 refine ⟨q,?_,fun q' h'=>?_⟩
 ·rw [hx,hb,hm]
  cases dP q<;>rfl
 ·rw [hm] at h'
  split at h'
  ·injection h' with h'; exact h'.symm
  ·cases h'
theorem aAb {o:Off} {k id a v:Int} (q:Off) (h:iG o k id a v=none) {x:D} (hx:x=q.w):MkR o k id a v [x,.bool false]:=by
 have hm:wL o k id a v=none:=by unfold wL; rw [h]; rfl
 exact ⟨q,by rw [hx,hm]; rfl,fun q' h'=>by rw [hm] at h'; cases h'⟩
theorem aWN (o:Off):o.w.unown=o.s:=by simp [Off.w,Off.s,dU,D.unown,fS,fA]
theorem aWR (o:Off):o.w.noOwn=false:=by simp [Off.w,dU,D.noOwn]
theorem rU {o q:Off} {k id a v:Int} (ho:dP o=true) (h:iG o k id a v=some q):q.ok0:=by
 have hp:=eM ho
 have h0:=fB ho
 have hc:∀ (i:Nat) (x:Cs),o.cs[i]?=some x->gJ x=true:=fun i x hr=>hp.2.2.2.2.2.2.2.2.2 x (aH hr)
 unfold iG at h
 split at h
 ·split at h
  ·cases h
  ·injection h with h; subst h; exact h0
 split at h
 ·split at h
  ·cases h
  ·injection h with h
   subst h
   refine ⟨⟨?_,fun x hx=>?_⟩,h0.2⟩
   ·simp [iQ]; omega
   ·rcases aT.1 hx with hx|hx
    ·exact h0.1.2 x (List.mem_of_mem_take hx)
    ·rcases List.mem_cons.1 hx with rfl|hx
     ·simp [Cs.ok0]
     ·exact h0.1.2 x (List.mem_of_mem_drop hx)
 split at h
 ·split at h
  ·injection h with h
   subst h
   refine ⟨⟨by simpa using h0.1.1,fun x hx=>?_⟩,h0.2⟩
   obtain ⟨y,hy,rfl⟩:=List.mem_map.1 hx
   exact Nat.le_trans (List.length_filter_le (fun n=>!decide (n=v)) y.h) (h0.1.2 y hy)
  ·cases h
 split at h
 ·rename_i x hr
  have hxc:=fF (hc _ x hr)
  split at h
  ·split at h
   ·cases h
   ·injection h with h
    subst h
    refine ⟨aBk h0.1 ?_,h0.2⟩
    show (kQ v x.h).length<=1048576
    rw [aFC]; omega
  ·split at h
   ·split at h
    ·cases h
    ·injection h with h
     subst h
     refine ⟨aBk h0.1 ?_,h0.2⟩
     show x.h.length<=1048576
     omega
   ·split at h
    ·injection h with h
     subst h
     have he:∀ i,o9 (o.cs.eraseIdx i):=fun i=>⟨by have:=aS o.cs i; omega,fun y hy=>h0.1.2 y (aR hy)⟩
     unfold lJ
     split
     ·exact ⟨he _,h0.2⟩
     ·split
      ·exact ⟨he _,h0.2⟩
      ·refine ⟨he _,by simp; omega,fun s hs=>?_⟩
       rcases aT.1 hs with hs|hs
       ·exact h0.2.2 s hs
       ·rw [aV.1 hs]
        have h1:=eT x.i (by simp only [dW]; omega)
        have h2:=eT o.day (by simp only [dW]; omega)
        simp [mF]; omega
    ·cases h
 ·cases h
theorem aNO (o:Off) (id a v:Int) (ho:dP o=true) (hs:m9 o 1 id a v=true):Fn prog 129 [o.s,j7 1 id a v] (MkR o 1 id a v):=by
 have hk1:decide ((1:Int)=1)=true:=rfl
 have hk2:decide ((1:Int)=2)=false:=rfl
 have hk3:decide ((1:Int)=3)=false:=rfl
 have hk4:decide ((1:Int)=4)=false:=rfl
 have hk5:decide ((1:Int)=5)=false:=rfl
 have hp:=eM ho
 have ho0:=fB ho
 have hO:=kD o ho0
 have hF:=kO o id ho0
 have hv:1<=v:=by simp [m9] at hs; exact hs.2
 refine cW lF [[1,0],[1,0]] ?_
 dsimp only [lF,cT,c7]
 simp only [j7]
 repeat' (first|(simp only [aWv,aWw,cJ,↓wA,↓wC,wB,cL,cK,a7,a8,bA,reduceIte,reduceCtorEq,aA,bB,dE])|((first|apply cG|apply cH|apply cF)<;>intro h<;>try simp only [h]))
 refine c8 (gI 0 rfl) ?_
 simp only [cL,cK,aWu,↓wA,↓wC,wB,cL,cK,a7,a8,bA,reduceIte,reduceCtorEq,aA,bB,dE]
 refine c8 (gI 1 rfl) ?_
 simp only [cL,cK,D.unown,↓wA,↓wC,wB,cL,cK,a7,a8,bA,reduceIte,reduceCtorEq,aA,bB,dE]
 have hf0:∀ K:SV->Prop,dG 0 0 (.d (.ptr o.s)) K=K (.d (.ptr (.int .i64 o.day))):=fun K=>by simp [Off.s,dU,dG,D.pre,D.nth,D.size]
 have hf1:∀ K:SV->Prop,dG 1 1 (.d (.ptr o.s)) K=K (.d (.ptr (.sl false 4 (dl Cs.s o.cs)))):=fun K=>by simp [Off.s,dU,dG,D.pre,D.nth,D.size]
 cases hd:decide (20000 - o.day < v) with
 | true =>
  have hM:iG o 1 id a v=none:=by unfold iG; rw [if_pos rfl,if_pos (of_decide_eq_true hd)]
  repeat' (first|(simp only [hk1,hk2,hk3,hk4,hk5,aWv,aWw,aWz,Off.w,dU,cX,cR,hf0,hf1,hd,↓dF,cJ,dO,aB,↓wA,↓wC,wB,cL,cK,a7,a8,bA,reduceIte,reduceCtorEq,aA,bB,dE])|(refine dL ?_)|(with_reducible refine aC ?_ ?_)|(refine cI hO (by simp [dB,dI,aWu]) rfl ?_)|(refine cI hF (by simp [dB,dI,aWu]) rfl ?_)|(with_reducible refine cP ?_ ?_; focus (simp only [dW]; omega))|((first|apply cG|apply cH|apply cF)<;>intro h<;>try simp only [h]))
  all_goals exact aAb o hM rfl
 | false =>
  have hM:iG o 1 id a v=some { o with day:=o.day + v }:=by unfold iG; rw [if_pos rfl,if_neg (of_decide_eq_false hd)]
  have hG:=f8 _ (rU ho hM)
  have hd':=of_decide_eq_false hd
  have hu:(D.st (.cons (.int .i64 (o.day + v)) (.cons (.sl true 4 (dl Cs.s o.cs)) (.cons (.int .i64 o.kept) (.cons (.int .i64 o.moved) (.cons (.sl true 1 (dl D.str o.led)) .nil)))))).unown=Off.s { o with day:=o.day + v }:=aWN { o with day:=o.day + v }
  repeat' (first|(simp only [hk1,hk2,hk3,hk4,hk5,aWv,aWw,aWz,Off.w,dU,cX,cR,hf0,hf1,hd,↓dF,cJ,dO,aB,↓wA,↓wC,wB,cL,cK,a7,a8,bA,reduceIte,reduceCtorEq,aA,bB,dE])|(refine dL ?_)|(with_reducible refine aC ?_ ?_)|(refine cI hO (by simp [dB,dI,aWu]) rfl ?_)|(refine cI hF (by simp [dB,dI,aWu]) rfl ?_)|(with_reducible refine cP ?_ ?_; focus (simp only [dW]; omega))|(refine cI hG (congrArg (fun d:D=>some [d]) hu) rfl ?_)|(refine cM hG (congrArg (fun d:D=>some [d]) hu) rfl ?_)|((first|apply cG|apply cH|apply cF)<;>intro h<;>try simp only [h]))
  all_goals exact s4 hM rfl rfl
theorem aM9 (o:Off) (id a v:Int) (ho:dP o=true) (hs:m9 o 2 id a v=true):Fn prog 129 [o.s,j7 2 id a v] (MkR o 2 id a v):=by
 have hk1:decide ((2:Int)=1)=false:=rfl
 have hk2:decide ((2:Int)=2)=true:=rfl
 have hk3:decide ((2:Int)=3)=false:=rfl
 have hk4:decide ((2:Int)=4)=false:=rfl
 have hk5:decide ((2:Int)=5)=false:=rfl
 have hp:=eM ho
 have ho0:=fB ho
 have hO:=kD o ho0
 have hF:=kO o id ho0
 have hv:0<=v:=by simp [m9] at hs; exact hs.2
 refine cW lF [[1,0],[1,0]] ?_
 dsimp only [lF,cT,c7]
 simp only [j7]
 repeat' (first|(simp only [aWv,aWw,cJ,↓wA,↓wC,wB,cL,cK,a7,a8,bA,reduceIte,reduceCtorEq,aA,bB,dE])|((first|apply cG|apply cH|apply cF)<;>intro h<;>try simp only [h]))
 refine c8 (gI 0 rfl) ?_
 simp only [cL,cK,aWu,↓wA,↓wC,wB,cL,cK,a7,a8,bA,reduceIte,reduceCtorEq,aA,bB,dE]
 refine c8 (gI 1 rfl) ?_
 simp only [cL,cK,D.unown,↓wA,↓wC,wB,cL,cK,a7,a8,bA,reduceIte,reduceCtorEq,aA,bB,dE]
 have hf0:∀ K:SV->Prop,dG 0 0 (.d (.ptr o.s)) K=K (.d (.ptr (.int .i64 o.day))):=fun K=>by simp [Off.s,dU,dG,D.pre,D.nth,D.size]
 have hf1:∀ K:SV->Prop,dG 1 1 (.d (.ptr o.s)) K=K (.d (.ptr (.sl false 4 (dl Cs.s o.cs)))):=fun K=>by simp [Off.s,dU,dG,D.pre,D.nth,D.size]
 cases hd:decide (20000 - o.day < v) with
 | true =>
  have hM:iG o 2 id a v=none:=by unfold iG; rw [if_neg (by decide),if_pos rfl,if_pos (of_decide_eq_true hd)]
  repeat' (first|(simp only [hk1,hk2,hk3,hk4,hk5,aWv,aWw,aWz,Off.w,dU,cX,cR,hf0,hf1,hd,↓dF,cJ,dO,aB,aD,cO,c6,↓wA,↓wC,wB,cL,cK,a7,a8,bA,reduceIte,reduceCtorEq,aA,bB,dE])|(refine dL ?_)|(with_reducible refine aC ?_ ?_)|(refine cI hO (by simp [dB,dI,aWu]) rfl ?_)|(refine cI hF (by simp [dB,dI,aWu]) rfl ?_)|(with_reducible refine cP ?_ ?_; focus (simp only [dW]; omega))|((first|apply cG|apply cH|apply cF)<;>intro h<;>try simp only [h]))
  all_goals exact aAb o hM rfl
 | false =>
  have hM:iG o 2 id a v=some { o with cs:=iQ ⟨id,a,o.day + v,[]⟩ o.cs }:=by unfold iG; rw [if_neg (by decide),if_pos rfl,if_neg (of_decide_eq_false hd)]
  have hG:=f8 _ (rU ho hM)
  have hd':=of_decide_eq_false hd
  have hE:=aFG o 2 id a v ho0 (by simp only [dW]; omega)
  simp only [j7] at hE
  have hu:(D.st (.cons (.int .i64 o.day) (.cons (.sl true 4 (dl Cs.s (iQ ⟨id,a,o.day + v,[]⟩ o.cs))) (.cons (.int .i64 o.kept) (.cons (.int .i64 o.moved) (.cons (.sl true 1 (dl D.str o.led)) .nil)))))).unown=Off.s { o with cs:=iQ ⟨id,a,o.day + v,[]⟩ o.cs }:=aWN { o with cs:=iQ ⟨id,a,o.day + v,[]⟩ o.cs }
  repeat' (first|(simp only [hk1,hk2,hk3,hk4,hk5,aWv,aWw,aWz,Off.w,dU,cX,cR,hf0,hf1,hd,↓dF,cJ,dO,aB,aD,cO,c6,↓wA,↓wC,wB,cL,cK,a7,a8,bA,reduceIte,reduceCtorEq,aA,bB,dE])|(refine dL ?_)|(with_reducible refine aC ?_ ?_)|(refine cI hO (by simp [dB,dI,aWu]) rfl ?_)|(refine cI hF (by simp [dB,dI,aWu]) rfl ?_)|(with_reducible refine cP ?_ ?_; focus (simp only [dW]; omega))|(refine cI hE (by simp [dB,dI,aWu,D.unown]) rfl ?_)|(refine cI hG (congrArg (fun d:D=>some [d]) hu) rfl ?_)|(refine cM hG (congrArg (fun d:D=>some [d]) hu) rfl ?_)|((first|apply cG|apply cH|apply cF)<;>intro h<;>try simp only [h]))
  all_goals exact s4 hM rfl rfl
theorem aMT (o:Off) (id a v:Int) (ho:dP o=true) (hs:m9 o 4 id a v=true):Fn prog 129 [o.s,j7 4 id a v] (MkR o 4 id a v):=by
 have hk1:decide ((4:Int)=1)=false:=rfl
 have hk2:decide ((4:Int)=2)=false:=rfl
 have hk3:decide ((4:Int)=3)=false:=rfl
 have hk4:decide ((4:Int)=4)=true:=rfl
 have hk5:decide ((4:Int)=5)=false:=rfl
 have hp:=eM ho
 have ho0:=fB ho
 have hO:=kD o ho0
 have hF:=kO o id ho0
 have hE:=aDh o v ho0
 have hd:True:=trivial
 cases hc:vS v o.cs with
 | true =>
  have hM:iG o 4 id a v=some { o with cs:=o.cs.map (tY v) }:=by unfold iG; rw [if_neg (by decide),if_neg (by decide),if_pos rfl,if_pos hc]
  have hG:=f8 _ (rU ho hM)
  have hu:(D.st (.cons (.int .i64 o.day) (.cons (.sl true 4 (dl Cs.s (o.cs.map (tY v)))) (.cons (.int .i64 o.kept) (.cons (.int .i64 o.moved) (.cons (.sl true 1 (dl D.str o.led)) .nil)))))).unown=Off.s { o with cs:=o.cs.map (tY v) }:=aWN { o with cs:=o.cs.map (tY v) }
  rw [hc] at hE
  refine cW lF [[1,0],[1,0]] ?_
  dsimp only [lF,cT,c7]
  simp only [j7]
  repeat' (first|(simp only [aWv,aWw,cJ,↓wA,↓wC,wB,cL,cK,a7,a8,bA,reduceIte,reduceCtorEq,aA,bB,dE])|((first|apply cG|apply cH|apply cF)<;>intro h<;>try simp only [h]))
  refine c8 (gI 0 rfl) ?_
  simp only [cL,cK,aWu,↓wA,↓wC,wB,cL,cK,a7,a8,bA,reduceIte,reduceCtorEq,aA,bB,dE]
  refine c8 (gI 1 rfl) ?_
  simp only [cL,cK,D.unown,↓wA,↓wC,wB,cL,cK,a7,a8,bA,reduceIte,reduceCtorEq,aA,bB,dE]
  have hf0:∀ K:SV->Prop,dG 0 0 (.d (.ptr o.s)) K=K (.d (.ptr (.int .i64 o.day))):=fun K=>by simp [Off.s,dU,dG,D.pre,D.nth,D.size]
  have hf1:∀ K:SV->Prop,dG 1 1 (.d (.ptr o.s)) K=K (.d (.ptr (.sl false 4 (dl Cs.s o.cs)))):=fun K=>by simp [Off.s,dU,dG,D.pre,D.nth,D.size]
  repeat' (first|(simp only [hk1,hk2,hk3,hk4,hk5,aWv,aWw,aWz,Off.w,dU,cX,cR,hf0,hf1,hd,↓dF,cJ,dO,aB,aD,cO,c6,↓wA,↓wC,wB,cL,cK,a7,a8,bA,reduceIte,reduceCtorEq,aA,bB,dE])|(refine dL ?_)|(with_reducible refine aC ?_ ?_)|(refine cI hO (by simp [dB,dI,aWu]) rfl ?_)|(refine cI hF (by simp [dB,dI,aWu]) rfl ?_)|(with_reducible refine cP ?_ ?_; focus (simp only [dW]; omega))|(refine cI hE (by simp [dB,dI,aWu]) rfl ?_)|(refine cI hG (congrArg (fun d:D=>some [d]) hu) rfl ?_)|(refine cM hG (congrArg (fun d:D=>some [d]) hu) rfl ?_)|((first|apply cG|apply cH|apply cF)<;>intro h<;>try simp only [h]))
  all_goals exact s4 hM rfl rfl
 | false =>
  have hM:iG o 4 id a v=none:=by unfold iG; rw [if_neg (by decide),if_neg (by decide),if_pos rfl,if_neg (by rw [hc]; decide)]
  rw [hc] at hE
  refine cW lF [[1,0],[1,0]] ?_
  dsimp only [lF,cT,c7]
  simp only [j7]
  repeat' (first|(simp only [aWv,aWw,cJ,↓wA,↓wC,wB,cL,cK,a7,a8,bA,reduceIte,reduceCtorEq,aA,bB,dE])|((first|apply cG|apply cH|apply cF)<;>intro h<;>try simp only [h]))
  refine c8 (gI 0 rfl) ?_
  simp only [cL,cK,aWu,↓wA,↓wC,wB,cL,cK,a7,a8,bA,reduceIte,reduceCtorEq,aA,bB,dE]
  refine c8 (gI 1 rfl) ?_
  simp only [cL,cK,D.unown,↓wA,↓wC,wB,cL,cK,a7,a8,bA,reduceIte,reduceCtorEq,aA,bB,dE]
  have hf0:∀ K:SV->Prop,dG 0 0 (.d (.ptr o.s)) K=K (.d (.ptr (.int .i64 o.day))):=fun K=>by simp [Off.s,dU,dG,D.pre,D.nth,D.size]
  have hf1:∀ K:SV->Prop,dG 1 1 (.d (.ptr o.s)) K=K (.d (.ptr (.sl false 4 (dl Cs.s o.cs)))):=fun K=>by simp [Off.s,dU,dG,D.pre,D.nth,D.size]
  repeat' (first|(simp only [hk1,hk2,hk3,hk4,hk5,aWv,aWw,aWz,Off.w,dU,cX,cR,hf0,hf1,hd,↓dF,cJ,dO,aB,aD,cO,c6,↓wA,↓wC,wB,cL,cK,a7,a8,bA,reduceIte,reduceCtorEq,aA,bB,dE])|(refine dL ?_)|(with_reducible refine aC ?_ ?_)|(refine cI hO (by simp [dB,dI,aWu]) rfl ?_)|(refine cI hF (by simp [dB,dI,aWu]) rfl ?_)|(with_reducible refine cP ?_ ?_; focus (simp only [dW]; omega))|(refine cI hE (by simp [dB,dI,aWu]) rfl ?_)|((first|apply cG|apply cH|apply cF)<;>intro h<;>try simp only [h]))
  all_goals exact aAb { o with cs:=o.cs.map (tY v) } hM rfl
theorem zI {o:Off} {id:Int} (h:decide (0<=fV o.cs id)=true):∃ (i:Nat) (x:Cs),fV o.cs id=(i:Int)/\o.cs[i]?=some x:=by
 rcases mQ o.cs id with ⟨_,hn⟩|⟨i,x,hi,hr,_⟩
 ·rw [hn] at h; cases h
 ·exact ⟨i,x,hi,hr⟩
theorem aLJ (o:Off) (id a v:Int) (ho:dP o=true) (hs:m9 o 6 id a v=true):Fn prog 129 [o.s,j7 6 id a v] (MkR o 6 id a v):=by
 have hk1:decide ((6:Int)=1)=false:=rfl
 have hk2:decide ((6:Int)=2)=false:=rfl
 have hk3:decide ((6:Int)=3)=false:=rfl
 have hk4:decide ((6:Int)=4)=false:=rfl
 have hk5:decide ((6:Int)=5)=false:=rfl
 have hp:=eM ho
 have ho0:=fB ho
 have hO:=kD o ho0
 have hF:=kO o id ho0
 have hd:True:=trivial
 obtain ⟨i,x,hi,hr⟩:=zI (o:=o) (id:=id) (by simp [m9] at hs; exact decide_eq_true hs.1.1)
 have hE:=aKj o i x ho hr
 rw [hi] at hF
 have hM0:iG o 6 id a v=if eE o x=true then some (lJ o i x) else none:=by
  unfold iG
  rw [if_neg (by decide),if_neg (by decide),if_neg (by decide),hi,aB,hr]
  simp
 have hwu:=aWN (lJ o i x)
 have hwV:∀ q:Off,q.w.isV=true:=fun _=>rfl
 have hwS:∀ q:Off,q.w.size=5:=fun _=>rfl
 have hwN:=aWR
 have hwB:∀ q:Off,q.w.isStB=true:=fun _=>rfl
 generalize hq:lJ o i x=q at hE hM0 hwu
 cases hc:eE o x with
 | true =>
  have hM:iG o 6 id a v=some q:=by rw [hM0,if_pos hc]
  have hG:=f8 _ (rU ho hM)
  rw [hc,aJ] at hE
  cases hk:dP q with
  | true =>
   rw [hk] at hE hG
   refine cW lF [[1,0],[1,0]] ?_
   dsimp only [lF,cT,c7]
   simp only [j7]
   repeat' (first|(simp only [aWv,aWw,cJ,↓wA,↓wC,wB,cL,cK,a7,a8,bA,reduceIte,reduceCtorEq,aA,bB,dE])|((first|apply cG|apply cH|apply cF)<;>intro h<;>try simp only [h]))
   refine c8 (gI 0 rfl) ?_
   simp only [cL,cK,aWu,↓wA,↓wC,wB,cL,cK,a7,a8,bA,reduceIte,reduceCtorEq,aA,bB,dE]
   refine c8 (gI 1 rfl) ?_
   simp only [cL,cK,D.unown,↓wA,↓wC,wB,cL,cK,a7,a8,bA,reduceIte,reduceCtorEq,aA,bB,dE]
   have hf0:∀ K:SV->Prop,dG 0 0 (.d (.ptr o.s)) K=K (.d (.ptr (.int .i64 o.day))):=fun K=>by simp [Off.s,dU,dG,D.pre,D.nth,D.size]
   have hf1:∀ K:SV->Prop,dG 1 1 (.d (.ptr o.s)) K=K (.d (.ptr (.sl false 4 (dl Cs.s o.cs)))):=fun K=>by simp [Off.s,dU,dG,D.pre,D.nth,D.size]
   repeat' (first|(simp only [hwV,hwS,hwN,hwB,hk1,hk2,hk3,hk4,hk5,aWv,aWw,aWz,cX,cR,hf0,hf1,hd,↓dF,cJ,dO,aB,aD,cO,c6,↓wA,↓wC,wB,cL,cK,a7,a8,bA,reduceIte,reduceCtorEq,aA,bB,dE])|(refine dL ?_)|(with_reducible refine aC ?_ ?_)|(refine cI hO (by simp [dB,dI,aWu]) rfl ?_)|(refine cI hF (by simp [dB,dI,aWu]) rfl ?_)|(with_reducible refine cP ?_ ?_; focus (simp only [dW]; omega))|(refine cI hE (by simp [dB,dI,aWu]) rfl ?_)|(refine cI hG (congrArg (fun d:D=>some [d]) hwu) rfl ?_)|(refine cM hG (congrArg (fun d:D=>some [d]) hwu) rfl ?_)|((first|apply cG|apply cH|apply cF)<;>intro h<;>try simp only [h]))
   all_goals exact fD _ rfl (cQ rfl (cQ rfl (cQ rfl (s4 hM rfl hk.symm))))
  | false =>
   rw [hk] at hE hG
   refine cW lF [[1,0],[1,0]] ?_
   dsimp only [lF,cT,c7]
   simp only [j7]
   repeat' (first|(simp only [aWv,aWw,cJ,↓wA,↓wC,wB,cL,cK,a7,a8,bA,reduceIte,reduceCtorEq,aA,bB,dE])|((first|apply cG|apply cH|apply cF)<;>intro h<;>try simp only [h]))
   refine c8 (gI 0 rfl) ?_
   simp only [cL,cK,aWu,↓wA,↓wC,wB,cL,cK,a7,a8,bA,reduceIte,reduceCtorEq,aA,bB,dE]
   refine c8 (gI 1 rfl) ?_
   simp only [cL,cK,D.unown,↓wA,↓wC,wB,cL,cK,a7,a8,bA,reduceIte,reduceCtorEq,aA,bB,dE]
   have hf0:∀ K:SV->Prop,dG 0 0 (.d (.ptr o.s)) K=K (.d (.ptr (.int .i64 o.day))):=fun K=>by simp [Off.s,dU,dG,D.pre,D.nth,D.size]
   have hf1:∀ K:SV->Prop,dG 1 1 (.d (.ptr o.s)) K=K (.d (.ptr (.sl false 4 (dl Cs.s o.cs)))):=fun K=>by simp [Off.s,dU,dG,D.pre,D.nth,D.size]
   repeat' (first|(simp only [hwV,hwS,hwN,hwB,hk1,hk2,hk3,hk4,hk5,aWv,aWw,aWz,cX,cR,hf0,hf1,hd,↓dF,cJ,dO,aB,aD,cO,c6,↓wA,↓wC,wB,cL,cK,a7,a8,bA,reduceIte,reduceCtorEq,aA,bB,dE])|(refine dL ?_)|(with_reducible refine aC ?_ ?_)|(refine cI hO (by simp [dB,dI,aWu]) rfl ?_)|(refine cI hF (by simp [dB,dI,aWu]) rfl ?_)|(with_reducible refine cP ?_ ?_; focus (simp only [dW]; omega))|(refine cI hE (by simp [dB,dI,aWu]) rfl ?_)|((first|apply cG|apply cH|apply cF)<;>intro h<;>try simp only [h]))
   all_goals exact fD _ rfl (cQ rfl (cQ rfl (cQ rfl (s4 hM rfl hk.symm))))
 | false =>
  have hM:iG o 6 id a v=none:=by rw [hM0,if_neg (by rw [hc]; decide)]
  rw [hc,aE] at hE
  refine cW lF [[1,0],[1,0]] ?_
  dsimp only [lF,cT,c7]
  simp only [j7]
  repeat' (first|(simp only [aWv,aWw,cJ,↓wA,↓wC,wB,cL,cK,a7,a8,bA,reduceIte,reduceCtorEq,aA,bB,dE])|((first|apply cG|apply cH|apply cF)<;>intro h<;>try simp only [h]))
  refine c8 (gI 0 rfl) ?_
  simp only [cL,cK,aWu,↓wA,↓wC,wB,cL,cK,a7,a8,bA,reduceIte,reduceCtorEq,aA,bB,dE]
  refine c8 (gI 1 rfl) ?_
  simp only [cL,cK,D.unown,↓wA,↓wC,wB,cL,cK,a7,a8,bA,reduceIte,reduceCtorEq,aA,bB,dE]
  have hf0:∀ K:SV->Prop,dG 0 0 (.d (.ptr o.s)) K=K (.d (.ptr (.int .i64 o.day))):=fun K=>by simp [Off.s,dU,dG,D.pre,D.nth,D.size]
  have hf1:∀ K:SV->Prop,dG 1 1 (.d (.ptr o.s)) K=K (.d (.ptr (.sl false 4 (dl Cs.s o.cs)))):=fun K=>by simp [Off.s,dU,dG,D.pre,D.nth,D.size]
  repeat' (first|(simp only [hwV,hwS,hwN,hwB,hk1,hk2,hk3,hk4,hk5,aWv,aWw,aWz,cX,cR,hf0,hf1,hd,↓dF,cJ,dO,aB,aD,cO,c6,↓wA,↓wC,wB,cL,cK,a7,a8,bA,reduceIte,reduceCtorEq,aA,bB,dE])|(refine dL ?_)|(with_reducible refine aC ?_ ?_)|(refine cI hO (by simp [dB,dI,aWu]) rfl ?_)|(refine cI hF (by simp [dB,dI,aWu]) rfl ?_)|(with_reducible refine cP ?_ ?_; focus (simp only [dW]; omega))|(refine cI hE (by simp [dB,dI,aWu]) rfl ?_)|((first|apply cG|apply cH|apply cF)<;>intro h<;>try simp only [h]))
  all_goals exact fD _ rfl (cQ rfl (cQ rfl (cQ rfl (aAb q hM rfl))))
theorem aL9 (o:Off) (id a v:Int) (ho:dP o=true) (hs:m9 o 3 id a v=true):Fn prog 129 [o.s,j7 3 id a v] (MkR o 3 id a v):=by
 have hk1:decide ((3:Int)=1)=false:=rfl
 have hk2:decide ((3:Int)=2)=false:=rfl
 have hk3:decide ((3:Int)=3)=true:=rfl
 have hk4:decide ((3:Int)=4)=false:=rfl
 have hk5:decide ((3:Int)=5)=false:=rfl
 have hp:=eM ho
 have ho0:=fB ho
 have hO:=kD o ho0
 have hF:=kO o id ho0
 have hd:True:=trivial
 obtain ⟨i,x,hi,hr⟩:=zI (o:=o) (id:=id) (by simp [m9] at hs; exact decide_eq_true hs.1.1)
 have hxc:=fF (hp.2.2.2.2.2.2.2.2.2 x (aH hr))
 have hH:=aHl x.h v (by omega)
 have hi0:(0:Int)<=(i:Int):=by omega
 rw [hi] at hF
 have hM0:iG o 3 id a v=if x.h.contains v=true then none else some { o with cs:=o.cs.set i { x with h:=kQ v x.h } }:=by
  unfold iG
  rw [if_neg (by decide),if_neg (by decide),if_neg (by decide),hi,aB,hr]
  simp
 have hgn:(dl Cs.s o.cs).nth i=some (x.p (.sl false 1 (dl iD x.h))):=by rw [c6,hr]; rfl
 have hgs:∀ (y:D),((dl Cs.s o.cs).setN i y).nth i=some y:=fun y=>by rw [oD,if_pos rfl,hgn]; rfl
 have hfx:∀ K:SV->Prop,dG 3 3 (.d (.ptr x.s)) K=K (.d (.ptr (.sl false 1 (dl iD x.h)))):=fun K=>uL
 cases hc:x.h.contains v with
 | true =>
  rw [hc] at hH
  have hM:iG o 3 id a v=none:=by rw [hM0,if_pos hc]
  refine cW lF [[1,0],[1,0]] ?_
  dsimp only [lF,cT,c7]
  simp only [j7]
  repeat' (first|(simp only [aWv,aWw,cJ,↓wA,↓wC,wB,cL,cK,a7,a8,bA,reduceIte,reduceCtorEq,aA,bB,dE])|((first|apply cG|apply cH|apply cF)<;>intro h<;>try simp only [h]))
  refine c8 (gI 0 rfl) ?_
  simp only [cL,cK,aWu,↓wA,↓wC,wB,cL,cK,a7,a8,bA,reduceIte,reduceCtorEq,aA,bB,dE]
  refine c8 (gI 1 rfl) ?_
  simp only [cL,cK,D.unown,↓wA,↓wC,wB,cL,cK,a7,a8,bA,reduceIte,reduceCtorEq,aA,bB,dE]
  have hf0:∀ K:SV->Prop,dG 0 0 (.d (.ptr o.s)) K=K (.d (.ptr (.int .i64 o.day))):=fun K=>by simp [Off.s,dU,dG,D.pre,D.nth,D.size]
  have hf1:∀ K:SV->Prop,dG 1 1 (.d (.ptr o.s)) K=K (.d (.ptr (.sl false 4 (dl Cs.s o.cs)))):=fun K=>by simp [Off.s,dU,dG,D.pre,D.nth,D.size]
  repeat' (first|(simp only [hk1,hk2,hk3,hk4,hk5,aWv,aWw,aWz,Off.w,dU,cX,cR,hf0,hf1,hd,↓dF,cJ,dO,aB,aD,cO,c6,hi0,hr,hfx,cY,↓wA,↓wC,wB,cL,cK,a7,a8,bA,reduceIte,reduceCtorEq,aA,bB,dE])|(refine dL ?_)|(with_reducible refine aC ?_ ?_)|(refine cI hO (by simp [dB,dI,aWu]) rfl ?_)|(refine cI hF (by simp [dB,dI,aWu]) rfl ?_)|(with_reducible refine cP ?_ ?_; focus (simp only [dW]; omega))|(refine cI (hH) rfl rfl ?_)|(refine cM (hH) rfl rfl ?_)|((first|apply cG|apply cH|apply cF)<;>intro h<;>try simp only [h]))
  all_goals exact aAb o hM rfl
 | false =>
  rw [hc] at hH
  have hM:iG o 3 id a v=some { o with cs:=o.cs.set i { x with h:=kQ v x.h } }:=by rw [hM0,if_neg (by rw [hc]; decide)]
  have hG:=f8 _ (rU ho hM)
  have hnv:v ∉ x.h:=fun h=>by rw [List.contains_iff_mem.2 h] at hc; cases hc
  have hP:Fn prog 169 [.sl false 1 (dl iD x.h),.int .i64 v] (fun rs=>rs=[.sl false 1 (dl iD (kQ v x.h))]):=by
   simpa [D.unown,dM] using fX (aNo x.h v (by omega) hnv)
  have hset:(dl Cs.s o.cs).setN i (x.p (.sl false 1 (dl iD (kQ v x.h))))=dl Cs.s (o.cs.set i { x with h:=kQ v x.h }):=by
   have e:x.p (.sl false 1 (dl iD (kQ v x.h)))=Cs.s { x with h:=kQ v x.h }:=rfl
   rw [e,gV]
  have hu:(D.st (.cons (.int .i64 o.day) (.cons (.sl true 4 (dl Cs.s (o.cs.set i { x with h:=kQ v x.h }))) (.cons (.int .i64 o.kept) (.cons (.int .i64 o.moved) (.cons (.sl true 1 (dl D.str o.led)) .nil)))))).unown=Off.s { o with cs:=o.cs.set i { x with h:=kQ v x.h } }:=aWN { o with cs:=o.cs.set i { x with h:=kQ v x.h } }
  refine cW lF [[1,1,1,0,1,0,1,1,1,1,1,0,1],[1,1,1,1,0],[1,0],[1,0]] ?_
  dsimp only [lF,cT,c7]
  simp only [j7]
  repeat' (first|(simp only [aWv,aWw,cJ,↓wA,↓wC,wB,cL,cK,a7,a8,bA,reduceIte,reduceCtorEq,aA,bB,dE])|((first|apply cG|apply cH|apply cF)<;>intro h<;>try simp only [h]))
  refine c8 (gI 0 rfl) ?_
  simp only [cL,cK,aWu,↓wA,↓wC,wB,cL,cK,a7,a8,bA,reduceIte,reduceCtorEq,aA,bB,dE]
  refine c8 (gI 1 rfl) ?_
  simp only [cL,cK,D.unown,↓wA,↓wC,wB,cL,cK,a7,a8,bA,reduceIte,reduceCtorEq,aA,bB,dE]
  have hf0:∀ K:SV->Prop,dG 0 0 (.d (.ptr o.s)) K=K (.d (.ptr (.int .i64 o.day))):=fun K=>by simp [Off.s,dU,dG,D.pre,D.nth,D.size]
  have hf1:∀ K:SV->Prop,dG 1 1 (.d (.ptr o.s)) K=K (.d (.ptr (.sl false 4 (dl Cs.s o.cs)))):=fun K=>by simp [Off.s,dU,dG,D.pre,D.nth,D.size]
  repeat' (first|(simp only [hk1,hk2,hk3,hk4,hk5,aWv,aWw,aWz,Off.w,dU,cX,cR,hf0,hf1,hd,↓dF,cJ,dO,aB,aD,cO,c6,hi0,hr,hfx,cY,↓wA,↓wC,wB,cL,cK,a7,a8,bA,reduceIte,reduceCtorEq,aA,bB,dE])|(refine dL ?_)|(with_reducible refine aC ?_ ?_)|(refine cI hO (by simp [dB,dI,aWu]) rfl ?_)|(refine cI hF (by simp [dB,dI,aWu]) rfl ?_)|(with_reducible refine cP ?_ ?_; focus (simp only [dW]; omega))|(refine cI (hH) rfl rfl ?_)|(refine cM (hH) rfl rfl ?_)|((first|apply cG|apply cH|apply cF)<;>intro h<;>try simp only [h]))
  refine eI _ (e8 4 none [1] (es:=4) (xs:=dl Cs.s o.cs) rfl rfl) fun v1=>?_
  simp only [dY,↓wA,↓wC,wB,cL,cK,a7,a8,bA,reduceIte,reduceCtorEq,aA,bB,dE]
  repeat' (first|(simp only [hk1,hk2,hk3,hk4,hk5,aWv,aWw,aWz,Off.w,dU,cX,cR,hf0,hf1,hd,↓dF,cJ,dO,aB,aD,cO,hi0,hgn,hgs,cY,fM,eK,eR,hset,↓wA,↓wC,wB,cL,cK,a7,a8,bA,reduceIte,reduceCtorEq,aA,bB,dE])|(refine dL ?_)|(with_reducible refine aC ?_ ?_)|(refine cI hO (by simp [dB,dI,aWu]) rfl ?_)|(refine cI hF (by simp [dB,dI,aWu]) rfl ?_)|(with_reducible refine cP ?_ ?_; focus (simp only [dW]; omega))|(refine cI (hP) rfl rfl ?_)|(refine cM (hP) rfl rfl ?_)|((first|apply cG|apply cH|apply cF)<;>intro h<;>try simp only [h]))
  refine c8 (gB 4 6 5 none [1] rfl rfl rfl rfl (by decide) rfl) ?_
  simp only [dY,↓wA,↓wC,wB,cL,cK,a7,a8,bA,reduceIte,reduceCtorEq,aA,bB,dE]
  repeat' (first|(simp only [hk1,hk2,hk3,hk4,hk5,aWv,aWw,aWz,Off.w,dU,cX,cR,hf0,hf1,hd,↓dF,cJ,dO,aB,aD,cO,↓wA,↓wC,wB,cL,cK,a7,a8,bA,reduceIte,reduceCtorEq,aA,bB,dE])|(refine dL ?_)|(with_reducible refine aC ?_ ?_)|(refine cI hO (by simp [dB,dI,aWu]) rfl ?_)|(refine cI hF (by simp [dB,dI,aWu]) rfl ?_)|(with_reducible refine cP ?_ ?_; focus (simp only [dW]; omega))|(refine cI hG (congrArg (fun d:D=>some [d]) hu) rfl ?_)|(refine cM hG (congrArg (fun d:D=>some [d]) hu) rfl ?_)|((first|apply cG|apply cH|apply cF)<;>intro h<;>try simp only [h]))
  all_goals exact s4 hM rfl rfl
theorem aNt (o:Off) (id a v:Int) (ho:dP o=true) (hs:m9 o 5 id a v=true):Fn prog 129 [o.s,j7 5 id a v] (MkR o 5 id a v):=by
 have hk1:decide ((5:Int)=1)=false:=rfl
 have hk2:decide ((5:Int)=2)=false:=rfl
 have hk3:decide ((5:Int)=3)=false:=rfl
 have hk4:decide ((5:Int)=4)=false:=rfl
 have hk5:decide ((5:Int)=5)=true:=rfl
 have hp:=eM ho
 have ho0:=fB ho
 have hO:=kD o ho0
 have hF:=kO o id ho0
 have hv:1<=v:=by simp [m9] at hs; exact hs.2
 obtain ⟨i,x,hi,hr⟩:=zI (o:=o) (id:=id) (by simp [m9] at hs; exact decide_eq_true hs.1.1)
 have hxc:=fF (hp.2.2.2.2.2.2.2.2.2 x (aH hr))
 have hi0:(0:Int)<=(i:Int):=by omega
 rw [hi] at hF
 have hM0:iG o 5 id a v=if v > 20000 - x.d then none else some { o with cs:=o.cs.set i { x with d:=x.d + v } }:=by
  unfold iG
  rw [if_neg (by decide),if_neg (by decide),if_neg (by decide),hi,aB,hr]
  simp
 have hgn:(dl Cs.s o.cs).nth i=some (x.p (.sl false 1 (dl iD x.h))):=by rw [c6,hr]; rfl
 have hgs:∀ (y:D),((dl Cs.s o.cs).setN i y).nth i=some y:=fun y=>by rw [oD,if_pos rfl,hgn]; rfl
 have hfx:∀ K:SV->Prop,dG 2 2 (.d (.ptr x.s)) K=K (.d (.ptr (.int .i64 x.d))):=fun K=>sS
 have hfx':∀ K:SV->Prop,dG 2 2 (.d (.ptr (x.p (.sl false 1 (dl iD x.h))))) K=K (.d (.ptr (.int .i64 x.d))):=fun K=>sS
 cases hd:decide (20000 - x.d < v) with
 | true =>
  have hM:iG o 5 id a v=none:=by rw [hM0,if_pos (of_decide_eq_true hd)]
  refine cW lF [[1,0],[1,0]] ?_
  dsimp only [lF,cT,c7]
  simp only [j7]
  repeat' (first|(simp only [aWv,aWw,cJ,↓wA,↓wC,wB,cL,cK,a7,a8,bA,reduceIte,reduceCtorEq,aA,bB,dE])|((first|apply cG|apply cH|apply cF)<;>intro h<;>try simp only [h]))
  refine c8 (gI 0 rfl) ?_
  simp only [cL,cK,aWu,↓wA,↓wC,wB,cL,cK,a7,a8,bA,reduceIte,reduceCtorEq,aA,bB,dE]
  refine c8 (gI 1 rfl) ?_
  simp only [cL,cK,D.unown,↓wA,↓wC,wB,cL,cK,a7,a8,bA,reduceIte,reduceCtorEq,aA,bB,dE]
  have hf0:∀ K:SV->Prop,dG 0 0 (.d (.ptr o.s)) K=K (.d (.ptr (.int .i64 o.day))):=fun K=>by simp [Off.s,dU,dG,D.pre,D.nth,D.size]
  have hf1:∀ K:SV->Prop,dG 1 1 (.d (.ptr o.s)) K=K (.d (.ptr (.sl false 4 (dl Cs.s o.cs)))):=fun K=>by simp [Off.s,dU,dG,D.pre,D.nth,D.size]
  repeat' (first|(simp only [hk1,hk2,hk3,hk4,hk5,aWv,aWw,aWz,Off.w,dU,cX,cR,hf0,hf1,hd,↓dF,cJ,dO,aB,aD,cO,c6,hi0,hr,hfx,cY,↓wA,↓wC,wB,cL,cK,a7,a8,bA,reduceIte,reduceCtorEq,aA,bB,dE])|(refine dL ?_)|(with_reducible refine aC ?_ ?_)|(refine cI hO (by simp [dB,dI,aWu]) rfl ?_)|(refine cI hF (by simp [dB,dI,aWu]) rfl ?_)|(with_reducible refine cP ?_ ?_; focus (simp only [dW]; omega))|((first|apply cG|apply cH|apply cF)<;>intro h<;>try simp only [h]))
  all_goals exact aAb o hM rfl
 | false =>
  have hd':=of_decide_eq_false hd
  have hM:iG o 5 id a v=some { o with cs:=o.cs.set i { x with d:=x.d + v } }:=by rw [hM0,if_neg (of_decide_eq_false hd)]
  have hG:=f8 _ (rU ho hM)
  have hset:(dl Cs.s o.cs).setN i (Cs.p { x with d:=x.d + v } (.sl false 1 (dl iD x.h)))=dl Cs.s (o.cs.set i { x with d:=x.d + v }):=by
   have e:Cs.p { x with d:=x.d + v } (.sl false 1 (dl iD x.h))=Cs.s { x with d:=x.d + v }:=rfl
   rw [e,gV]
  have hu:(D.st (.cons (.int .i64 o.day) (.cons (.sl true 4 (dl Cs.s (o.cs.set i { x with d:=x.d + v }))) (.cons (.int .i64 o.kept) (.cons (.int .i64 o.moved) (.cons (.sl true 1 (dl D.str o.led)) .nil)))))).unown=Off.s { o with cs:=o.cs.set i { x with d:=x.d + v } }:=aWN { o with cs:=o.cs.set i { x with d:=x.d + v } }
  refine cW lF [[1,1,1,0,1,0,1,1,1,1,1,1,1,1,1,0,1],[1,1,1,1,0],[1,0],[1,0]] ?_
  dsimp only [lF,cT,c7]
  simp only [j7]
  repeat' (first|(simp only [aWv,aWw,cJ,↓wA,↓wC,wB,cL,cK,a7,a8,bA,reduceIte,reduceCtorEq,aA,bB,dE])|((first|apply cG|apply cH|apply cF)<;>intro h<;>try simp only [h]))
  refine c8 (gI 0 rfl) ?_
  simp only [cL,cK,aWu,↓wA,↓wC,wB,cL,cK,a7,a8,bA,reduceIte,reduceCtorEq,aA,bB,dE]
  refine c8 (gI 1 rfl) ?_
  simp only [cL,cK,D.unown,↓wA,↓wC,wB,cL,cK,a7,a8,bA,reduceIte,reduceCtorEq,aA,bB,dE]
  have hf0:∀ K:SV->Prop,dG 0 0 (.d (.ptr o.s)) K=K (.d (.ptr (.int .i64 o.day))):=fun K=>by simp [Off.s,dU,dG,D.pre,D.nth,D.size]
  have hf1:∀ K:SV->Prop,dG 1 1 (.d (.ptr o.s)) K=K (.d (.ptr (.sl false 4 (dl Cs.s o.cs)))):=fun K=>by simp [Off.s,dU,dG,D.pre,D.nth,D.size]
  repeat' (first|(simp only [hk1,hk2,hk3,hk4,hk5,aWv,aWw,aWz,Off.w,dU,cX,cR,hf0,hf1,hd,↓dF,cJ,dO,aB,aD,cO,c6,hi0,hr,hfx,cY,↓wA,↓wC,wB,cL,cK,a7,a8,bA,reduceIte,reduceCtorEq,aA,bB,dE])|(refine dL ?_)|(with_reducible refine aC ?_ ?_)|(refine cI hO (by simp [dB,dI,aWu]) rfl ?_)|(refine cI hF (by simp [dB,dI,aWu]) rfl ?_)|(with_reducible refine cP ?_ ?_; focus (simp only [dW]; omega))|((first|apply cG|apply cH|apply cF)<;>intro h<;>try simp only [h]))
  refine eI _ (e8 4 none [1] (es:=4) (xs:=dl Cs.s o.cs) rfl rfl) fun v1=>?_
  simp only [dY,↓wA,↓wC,wB,cL,cK,a7,a8,bA,reduceIte,reduceCtorEq,aA,bB,dE]
  repeat' (first|(simp only [hk1,hk2,hk3,hk4,hk5,aWv,aWw,aWz,Off.w,dU,cX,cR,hf0,hf1,hd,↓dF,cJ,dO,aB,aD,cO,hi0,hr,hfx,hfx',hgn,hgs,cY,jL,jF,jI,hset,↓wA,↓wC,wB,cL,cK,a7,a8,bA,reduceIte,reduceCtorEq,aA,bB,dE])|(refine dL ?_)|(with_reducible refine aC ?_ ?_)|(refine cI hO (by simp [dB,dI,aWu]) rfl ?_)|(refine cI hF (by simp [dB,dI,aWu]) rfl ?_)|(with_reducible refine cP ?_ ?_; focus (simp only [dW]; omega))|((first|apply cG|apply cH|apply cF)<;>intro h<;>try simp only [h]))
  refine c8 (gB 4 6 5 none [1] rfl rfl rfl rfl (by decide) rfl) ?_
  simp only [dY,↓wA,↓wC,wB,cL,cK,a7,a8,bA,reduceIte,reduceCtorEq,aA,bB,dE]
  repeat' (first|(simp only [hk1,hk2,hk3,hk4,hk5,aWv,aWw,aWz,Off.w,dU,cX,cR,hf0,hf1,hd,↓dF,cJ,dO,aB,aD,cO,↓wA,↓wC,wB,cL,cK,a7,a8,bA,reduceIte,reduceCtorEq,aA,bB,dE])|(refine dL ?_)|(with_reducible refine aC ?_ ?_)|(refine cI hO (by simp [dB,dI,aWu]) rfl ?_)|(refine cI hF (by simp [dB,dI,aWu]) rfl ?_)|(with_reducible refine cP ?_ ?_; focus (simp only [dW]; omega))|(refine cI hG (congrArg (fun d:D=>some [d]) hu) rfl ?_)|(refine cM hG (congrArg (fun d:D=>some [d]) hu) rfl ?_)|((first|apply cG|apply cH|apply cF)<;>intro h<;>try simp only [h]))
  all_goals exact s4 hM rfl rfl
theorem aIi (o:Off) (k id a v:Int) (ho:dP o=true) (hs:m9 o k id a v=true):Fn prog 129 [o.s,j7 k id a v] (MkR o k id a v):=by
 by_cases h1:k=1
 ·subst h1; exact aNO o id a v ho hs
 by_cases h2:k=2
 ·subst h2; exact aM9 o id a v ho hs
 by_cases h3:k=3
 ·subst h3; exact aL9 o id a v ho hs
 by_cases h4:k=4
 ·subst h4; exact aMT o id a v ho hs
 by_cases h5:k=5
 ·subst h5; exact aNt o id a v ho hs
 have h6:k=6:=by
  unfold m9 at hs
  rw [if_neg h1,if_neg h2,if_neg h3,if_neg h4,if_neg h5] at hs
  simp only [aG,decide_eq_true_eq] at hs
  exact hs.1.1.1
 subst h6; exact aLJ o id a v ho hs
def uZ (o:Off) (k id a v:Int):Off:=(gZ o k id a v).getD aDt
def u0 (o:Off) (k id a v:Int):Bool:=(gZ o k id a v).isSome
theorem aEV (o:Off) (k id a v:Int) (ho:o.ok0):Fn prog 96 [o.s,j7 k id a v] (fun rs=>rs=[(uZ o k id a v).w,.bool (u0 o k id a v)]):=by
 have hG:=f8 o ho
 have hS:=aIg o k id a v ho
 have hE:=aMP o k id a v
 cases hv:dP o with
 | false =>
  have hR:gZ o k id a v=none:=by rw [<- hE]; unfold aF0; rw [hv]; rfl
  rw [hv] at hG
  have hX:uZ o k id a v=aDt:=by unfold uZ; rw [hR]; rfl
  have hY:u0 o k id a v=false:=by unfold u0; rw [hR]; rfl
  rw [hX,hY]
  refine cW aLq [] ?_
  dsimp only [aLq,cT,c7]
  simp only [j7]
  repeat' (first|(simp only [aWv,aWw,aWz,↓dF,cJ,↓wA,↓wC,wB,cL,cK,a7,a8,bA,reduceIte,reduceCtorEq,aA,bB,dE])|(refine cI hG (by simp [dB,dI,aWu]) rfl ?_)|((first|apply cG|apply cH|apply cF)<;>intro h<;>try simp only [h]))
  all_goals rfl
 | true =>
  rw [hv] at hG
  cases hb:m9 o k id a v with
  | false =>
   have hR:gZ o k id a v=none:=by rw [<- hE]; unfold aF0; rw [hv,hb]; rfl
   rw [hb] at hS
   have hX:uZ o k id a v=aDt:=by unfold uZ; rw [hR]; rfl
   have hY:u0 o k id a v=false:=by unfold u0; rw [hR]; rfl
   rw [hX,hY]
   refine cW aLq [] ?_
   dsimp only [aLq,cT,c7]
   simp only [j7] at hS ⊢
   repeat' (first|(simp only [aWv,aWw,aWz,↓dF,cJ,↓wA,↓wC,wB,cL,cK,a7,a8,bA,reduceIte,reduceCtorEq,aA,bB,dE])|(refine cI hG (by simp [dB,dI,aWu]) rfl ?_)|(refine cI hS (by simp [dB,dI,aWu]) rfl ?_)|((first|apply cG|apply cH|apply cF)<;>intro h<;>try simp only [h]))
   all_goals rfl
  | true =>
   have hR:gZ o k id a v=wL o k id a v:=by rw [<- hE]; unfold aF0; rw [hv,hb]; rfl
   rw [hb] at hS
   have hM:=aIi o k id a v hv hb
   refine cW aLq [] ?_
   dsimp only [aLq,cT,c7]
   simp only [j7] at hS hM ⊢
   repeat' (first|(simp only [aWv,aWw,aWz,↓dF,cJ,↓wA,↓wC,wB,cL,cK,a7,a8,bA,reduceIte,reduceCtorEq,aA,bB,dE])|(refine cI hG (by simp [dB,dI,aWu]) rfl ?_)|(refine cI hS (by simp [dB,dI,aWu]) rfl ?_)|((first|apply cG|apply cH|apply cF)<;>intro h<;>try simp only [h]))
   refine lT hM (by simp [dB,dI,aWu]) fun rs h=>?_
   obtain ⟨q,rfl,hq⟩:=h
   have hwV:q.w.isV=true:=rfl
   have hwS:q.w.size=5:=rfl
   refine ⟨.inl rfl,?_⟩
   unfold uZ u0
   rw [hR]
   cases hm:wL o k id a v with
   | none =>
    repeat' (first|(simp only [aWR,hwV,hwS,cJ,Option.isSome_none,↓wA,↓wC,wB,cL,cK,a7,a8,bA,reduceIte,reduceCtorEq,aA,bB,dE])|((first|apply cG|apply cH|apply cF)<;>intro h<;>try simp only [h]))
    all_goals rfl
   | some q' =>
    obtain rfl:=hq q' hm
    repeat' (first|(simp only [aWR,hwV,hwS,cJ,Option.isSome_some,↓wA,↓wC,wB,cL,cK,a7,a8,bA,reduceIte,reduceCtorEq,aA,bB,dE])|((first|apply cG|apply cH|apply cF)<;>intro h<;>try simp only [h]))
    all_goals exact cQ rfl (fD _ rfl (cQ rfl (cQ rfl (cQ rfl rfl))))
theorem aEP (o:Off) (k id a v:Int) (ho:o.ok0):Fn prog 96 [o.s,j7 k id a v] (fun rs=>rs=[(uZ o k id a v).s,.bool (u0 o k id a v)]):=by
 simpa [D.unown,aWN] using fX (aEV o k id a v ho)
def zS:D:=j7 0 0 0 0
def os:Option Stp->D
 | some x=>x.d
 | none=>zS
end Go.Pe.Tryz
namespace Go.Pe.Tryz
def mD (b:UInt8):Bool:=decide (48<=b.toNat) && decide (b.toNat<=57)
def tX (s:List UInt8):Int:=s.foldl (fun n b=>10 * n + ((b.toNat:Int) - 48)) 0
theorem vF (s:List UInt8) (b:UInt8):tX (s ++ [b])=10 * tX s + ((b.toNat:Int) - 48):=by
 unfold tX
 rw [List.foldl_append]; rfl
theorem aCl:∀ u:Nat,tX (Lib.decDigits u)=(u:Int):=by
 intro u
 induction u using Nat.strongRecOn with
 | _ u ih =>
  have one:∀ d:Nat,d < 10->(UInt8.ofNat (48 + d)).toNat=48 + d:=fun d hd=>by
   rw [UInt8.toNat_ofNat']; omega
  rw [Lib.decDigits]
  by_cases h:u < 10
  ·rw [dif_pos h]
   have:=vF [] (UInt8.ofNat (48 + u))
   rw [aI] at this
   rw [this,one u h]
   show 10 * (0:Int) + _=_
   omega
  ·rw [dif_neg h,vF,ih (u / 10) (by omega),one (u % 10) (by omega)]
   omega
theorem y4:∀ (k u:Nat),u < 10 ^ (k + 1)->(Lib.decDigits u).length<=k + 1
 | 0,u,h=>by
  rw [Lib.decDigits,dif_pos (by simpa using h)]; simp
 | k + 1,u,h=>by
  rw [Lib.decDigits]
  by_cases lB:u < 10
  ·rw [dif_pos lB]; simp
  ·rw [dif_neg lB]
   have:=y4 k (u / 10) (by rw [Nat.pow_succ] at h; omega)
   simp only [List.length_append,List.length_singleton]; omega
theorem aES (u:Nat):(Lib.decDigits u).all mD=true:=by
 rw [aK]
 intro b hb
 have:=lR u b hb
 simp only [mD,aG,decide_eq_true_eq]
 exact this
theorem xT (u:Nat):Lib.itoa (u:Int)=Lib.decDigits u:=by
 unfold Lib.itoa
 rw [if_neg (by omega)]; simp
theorem y3 (u:Nat) (h:0 < u):Lib.itoa (-(u:Int))=45 :: Lib.decDigits u:=by
 unfold Lib.itoa
 rw [if_pos (by omega)]; simp
theorem aJu:∀ (n:Nat) (s:List UInt8),s.length=n->s.all mD=true->0<=tX s/\tX s < 10 ^ n:=by
 intro n
 induction n with
 | zero =>
  intro s hs _
  obtain rfl:=List.eq_nil_of_length_eq_zero hs
  exact ⟨Int.le_refl _,by decide⟩
 | succ n ih =>
  intro s hs ha
  rcases List.eq_nil_or_concat s with rfl|⟨u,b,rfl⟩
  ·simp at hs
  ·rw [List.concat_eq_append] at *
   rw [List.all_append,aG] at ha
   have hb:mD b=true:=by simpa using ha.2
   simp only [mD,aG,decide_eq_true_eq] at hb
   have h:=ih u (by simpa using hs) ha.1
   rw [vF,Int.pow_succ]
   omega
theorem aEs (x:UInt8) (a t:List UInt8) (h:x ∉ a):∀ j,j<=t.length->zE x (a ++ x :: t) (a.length + 1 + j)=(a :: (zE x t j).1,a.length + 1 + (zE x t j).2)
 | 0,_=>by
  have hi:=xV x (a ++ x :: t) a.length (by simp)
  rcases hi with ⟨h1,h2,_⟩|⟨h1,_⟩
  ·have hx:(a ++ x :: t)[a.length]?=some x:=by simp
   rw [Nat.add_zero,zT hx,if_pos rfl,h1,h2]
   simp [zE]
  ·exfalso
   -- nothing is done cZ the first byte x
   have hz:∀ k,k<=a.length->(zE x (a ++ x :: t) k).1=[]:=by
    intro k
    induction k with
    | zero=>intro _; rfl
    | succ k ih =>
     intro hk
     have hk':k < a.length:=hk
     have hc:(a ++ x :: t)[k]?=some a[k]:=by rw [List.getElem?_append_left hk',List.getElem?_eq_getElem hk']
     rw [zT hc,if_neg (fun e:a[k]=x=>h (e ▸ List.getElem_mem hk')),ih (by omega)]
   rw [hz a.length (aO _)] at h1
   simp at h1
 | j + 1,hj=>by
  have ih:=aEs x a t h j (by omega)
  have hjl:j < t.length:=hj
  have hc:(a ++ x :: t)[a.length + 1 + j]?=some t[j]:=by
   rw [List.getElem?_append_right (by omega),show a.length + 1 + j - a.length=j + 1 by omega]
   simp [List.getElem?_eq_getElem hjl]
  have hc':t[j]?=some t[j]:=List.getElem?_eq_getElem hjl
  rw [show a.length + 1 + (j + 1)=(a.length + 1 + j) + 1 by omega,zT hc,zT hc',ih]
  have e1:(a ++ x :: t).take (a.length + 1 + j)=a ++ x :: t.take j:=by
   rw [List.take_append,List.take_of_length_le (by omega),show a.length + 1 + j - a.length=j + 1 by omega,List.take_succ_cons]
  have e2:∀ p,(a ++ x :: t.take j).drop (a.length + 1 + p)=(t.take j).drop p:=fun p=>by
   rw [aY,<-aX,aW rfl,a6 1 p,aP]
  split
  ·simp only [e1,e2,aF]
   rfl
  ·rfl
theorem wU {x:UInt8} {a t:List UInt8} (h:x ∉ a):parts x (a ++ x :: t)=a :: parts x t:=by
 unfold parts
 have e:=aEs x a t h t.length (aO _)
 have hl:(a ++ x :: t).length=a.length + 1 + t.length:=by simp; omega
 rw [hl,e]
 have e2:∀ p,(a ++ x :: t).drop (a.length + 1 + p)=t.drop p:=fun p=>by
  rw [aY,<-aX,aW rfl,a6 1 p,aP]
 simp only [e2,aF]
theorem aCV {x:UInt8} {s:List UInt8} (h:x ∉ s):parts x s=[s]:=by
 unfold parts
 rcases xV x s s.length (aO _) with ⟨h1,h2,_⟩|⟨_,h2⟩
 ·rw [h1,h2]; rfl
 ·exact absurd h2 h
def rdS (s:List UInt8):Bool:=decide (1 < s.length) && (s.head? == some 45)
def kZ (s:List UInt8):List UInt8:=if rdS s=true then s.drop 1 else s
def rdV (s:List UInt8):Int:=if rdS s=true then -(tX (kZ s)) else tX (kZ s)
def kM (s:List UInt8):Option Int:=if 1<=(kZ s).length/\(kZ s).length<=6/\(kZ s).all mD=true/\Lib.itoa (rdV s)=s then some (rdV s) else none
theorem aFc {s:List UInt8} (h1:(kZ s).length<=6) (h2:(kZ s).all mD=true):-999999<=rdV s/\rdV s<=999999:=by
 have hb:=aJu (kZ s).length (kZ s) rfl h2
 have:(10:Int) ^ (kZ s).length<=10 ^ 6:=by
  have h7:(10:Nat) ^ (kZ s).length<=10 ^ 6:=aU (by decide) h1
  exact_mod_cast h7
 have e:(10:Int) ^ 6=1000000:=by decide
 unfold rdV
 split<;>omega
theorem aI1 {n:Int} (h0:-999999<=n) (h1:n<=999999):kM (Lib.itoa n)=some n:=by
 by_cases hn:0<=n
 ·obtain ⟨u,rfl⟩:=Int.eq_ofNat_of_zero_le hn
  rw [xT]
  have hs:rdS (Lib.decDigits u)=false:=by
   unfold rdS
   cases hd:Lib.decDigits u with
   | nil=>rfl
   | cons b r =>
    have:=lR u b (by rw [hd]; simp)
    have hb:b≠45:=fun e=>by rw [e] at this; revert this; decide
    simp [hb]
  have hu:kZ (Lib.decDigits u)=Lib.decDigits u:=by unfold kZ; rw [if_neg (by rw [hs]; decide)]
  have hv:rdV (Lib.decDigits u)=(u:Int):=by unfold rdV; rw [if_neg (by rw [hs]; decide),hu,aCl]
  unfold kM
  rw [hv,hu,if_pos ⟨aM.2 (mZ u),y4 5 u (by omega),aES u,xT u⟩]
 ·obtain ⟨u,rfl⟩:∃ u:Nat,n=-(u:Int):=⟨n.natAbs,by omega⟩
  rw [y3 u (by omega)]
  have hs:rdS (45 :: Lib.decDigits u)=true:=by
   have:=aM.2 (mZ u)
   simp only [rdS,aL,List.head?_cons,beq_self_eq_true,aZ,decide_eq_true_eq]
   omega
  have hu:kZ (45 :: Lib.decDigits u)=Lib.decDigits u:=by unfold kZ; rw [if_pos hs]; rfl
  have hv:rdV (45 :: Lib.decDigits u)=-(u:Int):=by unfold rdV; rw [if_pos hs,hu,aCl]
  unfold kM
  rw [hv,hu,if_pos ⟨aM.2 (mZ u),y4 5 u (by omega),aES u,y3 u (by omega)⟩]
theorem s6 {s:List UInt8} {n:Int} (h:kM s=some n):Lib.itoa n=s/\-999999<=n/\n<=999999:=by
 unfold kM at h
 split at h
 ·rename_i hc
  injection h with h
  subst h
  exact ⟨hc.2.2.2,aFc hc.2.1 hc.2.2.1⟩
 ·cases h
end Go.Pe.Tryz
namespace Go.Pe.Tryz
open Go.Proofs.Tryz Go.Sort
theorem zH {s:List UInt8} {i:Nat} {b:UInt8} (hb:s[i]?=some b):tX (s.take (i + 1))=10 * tX (s.take i) + ((b.toNat:Int) - 48):=by
 have hi:=cV hb
 have:s.take (i + 1)=s.take i ++ [b]:=by
  rw [List.take_succ_eq_append_getElem hi]
  rw [List.getElem?_eq_getElem hi] at hb
  injection hb with hb
  rw [hb]
 rw [this,vF]
theorem mU {s:List UInt8} {i:Nat} (hi:i<=s.length) (h7:s.length<=7) (ha:∀ j b,j < i->s[j]?=some b->mD b=true):0<=tX (s.take i)/\tX (s.take i) < 10000000:=by
 have hal:(s.take i).all mD=true:=aK.2 fun b hb=>by
  obtain ⟨j,hj⟩:=List.getElem?_of_mem hb
  rw [List.getElem?_take] at hj
  split at hj
  ·exact ha j b (by assumption) hj
  ·cases hj
 have hb:=aJu (s.take i).length (s.take i) rfl hal
 have:(10:Int) ^ (s.take i).length<=10 ^ 7:=by
  have h7:(10:Nat) ^ (s.take i).length<=10 ^ 7:=aU (by decide) (by rw [List.length_take]; omega)
  exact_mod_cast h7
 have e:(10:Int) ^ 7=10000000:=by decide
 omega
theorem aAf (n:Int) (h:-1000000000<=n) (h1:n<=1000000000):Fn prog 89 [.int .i64 n] (fun rs=>rs=[.str (Lib.itoa n)]):=by
 by_cases h0:0<=n
 ·exact fR n h0 (by simp only [dW]; omega)
 ·have hN:=fR (-n) (by omega) (by simp only [dW]; omega)
  have hd:decide (n < 0)=true:=decide_eq_true (by omega)
  obtain ⟨u,hu⟩:∃ u:Nat,n=-(u:Int):=⟨n.natAbs,by omega⟩
  have hi:Lib.itoa n=45 :: Lib.itoa (-n):=by
   rw [hu,y3 u (by omega),Int.neg_neg,xT]
  have hle:=eT (-n) (by simp only [dW]; omega)
  rw [hi]
  refine cW aOA [] ?_
  dsimp only [aOA,cT,c7]
  repeat' (first|(simp only [hd,↓wA,↓wC,wB,cL,cK,a7,a8,bA,reduceIte,reduceCtorEq,aA,bB])|(refine cI (hN) rfl rfl ?_)|(refine cM (hN) rfl rfl ?_)|(refine cM hN rfl rfl ?_)|(with_reducible refine cP ?_ ?_; focus (simp only [dW]; omega))|(with_reducible refine cQ ?_ ?_; focus ((try simp only [aL,List.length_nil]); omega))|((first|apply cG|apply cH|apply cF)<;>intro h<;>try simp only [h]))
  all_goals rfl
def rdR (s:List UInt8):List D:=match kM s with
 | some n=>[.int .i64 n,.bool true]
 | none=>[.int .i64 0,.bool false]
theorem m4 {s:List UInt8} (h:¬ (1<=(kZ s).length/\(kZ s).length<=6/\(kZ s).all mD=true/\Lib.itoa (rdV s)=s)):rdR s=[.int .i64 0,.bool false]:=by
 unfold rdR kM; rw [if_neg h]
theorem aCO {s:List UInt8} (h:1<=(kZ s).length/\(kZ s).length<=6/\(kZ s).all mD=true/\Lib.itoa (rdV s)=s):rdR s=[.int .i64 (rdV s),.bool true]:=by
 unfold rdR kM; rw [if_pos h]
theorem aGQ {s:List UInt8} (h:rdS s=true):∃ t,s=45 :: t/\t≠[]:=by
 unfold rdS at h
 cases s with
 | nil=>simp at h
 | cons b t =>
  simp only [aL,List.head?_cons,aG,decide_eq_true_eq,beq_iff_eq,Option.some.injEq] at h
  exact ⟨t,by rw [h.2],fun e=>by rw [e] at h; simp at h⟩
theorem aKN {s:List UInt8} (h:rdS s=false):s.length<=1\/∃ b t,s=b :: t/\t≠[]/\decide ((b.toNat:Int)=45)=false:=by
 cases s with
 | nil=>left; simp
 | cons b t =>
  by_cases ht:t=[]
  ·left; rw [ht]; simp
  ·right
   refine ⟨b,t,rfl,ht,decide_eq_false fun e=>?_⟩
   have hb:b=45:=UInt8.toNat_inj.1 (by have:(45:UInt8).toNat=45:=rfl; omega)
   have:=aM.2 ht
   unfold rdS at h
   rw [hb] at h
   simp only [aL,List.head?_cons,beq_self_eq_true,aZ,decide_eq_false_iff_not] at h
   omega
theorem aTO (s:List UInt8):decide (((kZ s).length:Int) < (s.length:Int))=rdS s:=by
 cases h:rdS s with
 | true =>
  obtain ⟨t,rfl,ht⟩:=aGQ h
  unfold kZ
  rw [if_pos h]
  exact decide_eq_true (by simp only [aP,List.drop_zero,aL]; omega)
 | false =>
  unfold kZ
  rw [if_neg (by rw [h]; decide)]
  exact decide_eq_false (by omega)
theorem aKI (s:List UInt8) (hl:s.length<=100000000):Fn prog 88 [.str s] (fun rs=>rs=rdR s):=by
 have hlt:=aTO s
 have hV:rdV s=if rdS s=true then -(tX (kZ s)) else tX (kZ s):=rfl
 cases hS:rdS s with
 | true =>
  rw [hS] at hlt hV
  obtain ⟨t,rfl,ht⟩:=aGQ hS
  have hU:t=kZ (45 :: t):=by unfold kZ; rw [if_pos hS]; rfl
  have hps:=aM.2 ht
  simp only [aL] at hl
  have d1:decide ((1:Int) < ((t.length + 1:Nat):Int))=true:=decide_eq_true (by omega)
  have d1':(45 :: t:List UInt8)[(0:Int).toNat]?=some 45:=rfl
  have d1'':decide (((45:UInt8).toNat:Int)=45)=true:=rfl
  have hdr:(45 :: t:List UInt8).drop (1:Int).toNat=t:=rfl
  refine cW aKO [[1,1,1,0,0]] ?_
  dsimp only [aKO,cT,c7]
  repeat' (first|(simp only [cJ,d1,d1',d1'',hdr,↓wA,↓wC,wB,cL,cK,a7,a8,bA,reduceIte,reduceCtorEq,aA,bB])|(with_reducible refine cQ ?_ ?_; focus omega)|((first|apply cG|apply cH|apply cF)<;>intro h<;>try simp only [h]))
  refine c8 (s':=⟨[(0,.d (.str (45 :: t))),(4,.d (.str (kZ (45 :: t))))],[]⟩) (cU [] rfl ⟨⟨rfl,rfl⟩,⟨congrArg (fun x=>SV.d (.str x)) hU,rfl⟩,trivial⟩) ?_
  generalize hs:(45 :: t:List UInt8)=s at *
  clear hU
  have hW:=iK ((kZ s).length:Int) 1 6
  cases hw:dC ((kZ s).length:Int) 1 6 with
  | false =>
   rw [hw] at hW
   rw [m4 (fun h=>by
    have:dC ((kZ s).length:Int) 1 6=true:=by simp only [dC,aG,decide_eq_true_eq]; omega
    rw [hw] at this; cases this)]
   repeat' (first|(simp only [↓wA,↓wC,wB,cL,cK,a7,a8,bA,reduceIte,reduceCtorEq,aA,bB])|(refine cI (hW) rfl rfl ?_)|(refine cM (hW) rfl rfl ?_)|((first|apply cG|apply cH|apply cF)<;>intro h<;>try simp only [h]))
  | true =>
   rw [hw] at hW
   have hwl:1<=(kZ s).length/\(kZ s).length<=6:=by
    simp only [dC,aG,decide_eq_true_eq] at hw; omega
   repeat' (first|(simp only [↓wA,↓wC,wB,cL,cK,a7,a8,bA,reduceIte,reduceCtorEq,aA,bB])|(refine cI (hW) rfl rfl ?_)|(refine cM (hW) rfl rfl ?_)|((first|apply cG|apply cH|apply cF)<;>intro h<;>try simp only [h]))
   refine dR (kZ s).length (fun i:Nat=>⟨[(0,.d (.str s)),(4,.d (.str (kZ s))),(5,.d (.int .i64 (tX ((kZ s).take i)))),(6,.d (.int .i64 i))],[]⟩) (fun i=>∀ j b,j < i->(kZ s)[j]?=some b->mD b=true) (cU _ rfl ⟨⟨rfl,rfl⟩,⟨rfl,rfl⟩,⟨rfl,rfl⟩,⟨rfl,rfl⟩,trivial⟩) (fun j r hj=>by omega) ?_ ?_
   ·intro i hlti hinv hd2 hi0
    obtain ⟨b,hb⟩:=dQ hlti
    have hbd:=mU (i:=i) (by omega) (by omega) (fun j c hj hc=>hinv j c hj hc)
    have hst:=zH hb
    have hno:mD b=false->rdR s=[.int .i64 0,.bool false]:=fun h=>m4 fun hh=>by
     have:=aK.1 hh.2.2.1 b (aH hb)
     rw [h] at this; cases this
    by_cases h48:48<=b.toNat
    ·have e48:decide ((b.toNat:Int) < 48)=false:=decide_eq_false (by omega)
     by_cases h57:b.toNat<=57
     ·have e57:decide ((57:Int) < (b.toNat:Int))=false:=decide_eq_false (by omega)
      repeat' (first|(simp only [hd2,hi0,hb,e48,e57,aB,cJ,↓wA,↓wC,wB,cL,cK,a7,a8,bA,reduceIte,reduceCtorEq,aA,bB])|(with_reducible refine cP ?_ ?_; focus (simp only [dW]; omega))|((first|apply cG|apply cH|apply cF)<;>intro h<;>try simp only [h]))
      all_goals
       refine fH (cU _ rfl ⟨⟨rfl,rfl⟩,⟨rfl,rfl⟩,⟨congrArg (fun n=>SV.d (.int .i64 n)) hst.symm,rfl⟩,⟨rfl,rfl⟩,trivial⟩) hlti fun j c hj hc=>?_
       by_cases e:j=i
       ·subst e; rw [hb] at hc; injection hc with hc; rw [<- hc]; simp [mD,h48,h57]
       ·exact hinv j c (by omega) hc
     ·have e57:decide ((57:Int) < (b.toNat:Int))=true:=decide_eq_true (by omega)
      rw [hno (by simp [mD,h57])]
      repeat' (first|(simp only [hd2,hi0,hb,e48,e57,aB,cJ,↓wA,↓wC,wB,cL,cK,a7,a8,bA,reduceIte,reduceCtorEq,aA,bB])|(with_reducible refine cP ?_ ?_; focus (simp only [dW]; omega))|((first|apply cG|apply cH|apply cF)<;>intro h<;>try simp only [h]))
    ·have e48:decide ((b.toNat:Int) < 48)=true:=decide_eq_true (by omega)
     rw [hno (by simp [mD,h48])]
     repeat' (first|(simp only [hd2,hi0,hb,e48,aB,cJ,↓wA,↓wC,wB,cL,cK,a7,a8,bA,reduceIte,reduceCtorEq,aA,bB])|(with_reducible refine cP ?_ ?_; focus (simp only [dW]; omega))|((first|apply cG|apply cH|apply cF)<;>intro h<;>try simp only [h]))
   ·intro hinv hd2
    have hall:(kZ s).all mD=true:=aK.2 fun b hb=>by
     obtain ⟨j,hj⟩:=List.getElem?_of_mem hb
     exact hinv j b (cV hj) hj
    have hbd:=mU (s:=kZ s) (i:=(kZ s).length) (aO _) (by omega) (fun j c hj hc=>hinv j c hj hc)
    rw [aN] at hbd
    have hvb:=aFc hwl.2 hall
    have hN:=aAf (rdV s) (by omega) (by omega)
    simp only [if_true,aQ,if_false] at hV
    rw [aN]
    by_cases he:Lib.itoa (rdV s)=s
    ·have de:decide (Lib.itoa (rdV s)=s)=true:=decide_eq_true he
     rw [aCO ⟨hwl.1,hwl.2,hall,he⟩]
     rw [hV] at hN de ⊢
     repeat' (first|(simp only [hd2,hlt,de,↓wA,↓wC,wB,cL,cK,a7,a8,bA,reduceIte,reduceCtorEq,aA,bB])|(refine cI (hN) rfl rfl ?_)|(refine cM (hN) rfl rfl ?_)|(with_reducible refine cP ?_ ?_; focus (simp only [dW]; omega))|((first|apply cG|apply cH|apply cF)<;>intro h<;>try simp only [h]))
    ·have de:decide (Lib.itoa (rdV s)=s)=false:=decide_eq_false he
     rw [m4 fun h=>he h.2.2.2]
     rw [hV] at hN de
     repeat' (first|(simp only [hd2,hlt,de,↓wA,↓wC,wB,cL,cK,a7,a8,bA,reduceIte,reduceCtorEq,aA,bB])|(refine cI (hN) rfl rfl ?_)|(refine cM (hN) rfl rfl ?_)|(with_reducible refine cP ?_ ?_; focus (simp only [dW]; omega))|((first|apply cG|apply cH|apply cF)<;>intro h<;>try simp only [h]))
 | false =>
  rw [hS] at hlt hV
  have hU:s=kZ s:=by unfold kZ; rw [if_neg (by rw [hS]; decide)]
  rcases aKN hS with h1|⟨b,t,hbt,ht,hb⟩
  ·have d1:decide ((1:Int) < (s.length:Int))=false:=decide_eq_false (by omega)
   refine cW aKO [[1,1,1,0,0]] ?_
   dsimp only [aKO,cT,c7]
   repeat' (first|(simp only [cJ,d1,↓wA,↓wC,wB,cL,cK,a7,a8,bA,reduceIte,reduceCtorEq,aA,bB])|(with_reducible refine cQ ?_ ?_; focus omega)|((first|apply cG|apply cH|apply cF)<;>intro h<;>try simp only [h]))
   refine c8 (s':=⟨[(0,.d (.str s)),(4,.d (.str (kZ s)))],[]⟩) (cU [] rfl ⟨⟨rfl,rfl⟩,⟨congrArg (fun x=>SV.d (.str x)) hU,rfl⟩,trivial⟩) ?_
   clear hU
   have hW:=iK ((kZ s).length:Int) 1 6
   cases hw:dC ((kZ s).length:Int) 1 6 with
   | false =>
    rw [hw] at hW
    rw [m4 (fun h=>by
     have:dC ((kZ s).length:Int) 1 6=true:=by simp only [dC,aG,decide_eq_true_eq]; omega
     rw [hw] at this; cases this)]
    repeat' (first|(simp only [↓wA,↓wC,wB,cL,cK,a7,a8,bA,reduceIte,reduceCtorEq,aA,bB])|(refine cI (hW) rfl rfl ?_)|(refine cM (hW) rfl rfl ?_)|((first|apply cG|apply cH|apply cF)<;>intro h<;>try simp only [h]))
   | true =>
    rw [hw] at hW
    have hwl:1<=(kZ s).length/\(kZ s).length<=6:=by
     simp only [dC,aG,decide_eq_true_eq] at hw; omega
    repeat' (first|(simp only [↓wA,↓wC,wB,cL,cK,a7,a8,bA,reduceIte,reduceCtorEq,aA,bB])|(refine cI (hW) rfl rfl ?_)|(refine cM (hW) rfl rfl ?_)|((first|apply cG|apply cH|apply cF)<;>intro h<;>try simp only [h]))
    refine dR (kZ s).length (fun i:Nat=>⟨[(0,.d (.str s)),(4,.d (.str (kZ s))),(5,.d (.int .i64 (tX ((kZ s).take i)))),(6,.d (.int .i64 i))],[]⟩) (fun i=>∀ j b,j < i->(kZ s)[j]?=some b->mD b=true) (cU _ rfl ⟨⟨rfl,rfl⟩,⟨rfl,rfl⟩,⟨rfl,rfl⟩,⟨rfl,rfl⟩,trivial⟩) (fun j r hj=>by omega) ?_ ?_
    ·intro i hlti hinv hd2 hi0
     obtain ⟨b,hb⟩:=dQ hlti
     have hbd:=mU (i:=i) (by omega) (by omega) (fun j c hj hc=>hinv j c hj hc)
     have hst:=zH hb
     have hno:mD b=false->rdR s=[.int .i64 0,.bool false]:=fun h=>m4 fun hh=>by
      have:=aK.1 hh.2.2.1 b (aH hb)
      rw [h] at this; cases this
     by_cases h48:48<=b.toNat
     ·have e48:decide ((b.toNat:Int) < 48)=false:=decide_eq_false (by omega)
      by_cases h57:b.toNat<=57
      ·have e57:decide ((57:Int) < (b.toNat:Int))=false:=decide_eq_false (by omega)
       repeat' (first|(simp only [hd2,hi0,hb,e48,e57,aB,cJ,↓wA,↓wC,wB,cL,cK,a7,a8,bA,reduceIte,reduceCtorEq,aA,bB])|(with_reducible refine cP ?_ ?_; focus (simp only [dW]; omega))|((first|apply cG|apply cH|apply cF)<;>intro h<;>try simp only [h]))
       all_goals
        refine fH (cU _ rfl ⟨⟨rfl,rfl⟩,⟨rfl,rfl⟩,⟨congrArg (fun n=>SV.d (.int .i64 n)) hst.symm,rfl⟩,⟨rfl,rfl⟩,trivial⟩) hlti fun j c hj hc=>?_
        by_cases e:j=i
        ·subst e; rw [hb] at hc; injection hc with hc; rw [<- hc]; simp [mD,h48,h57]
        ·exact hinv j c (by omega) hc
      ·have e57:decide ((57:Int) < (b.toNat:Int))=true:=decide_eq_true (by omega)
       rw [hno (by simp [mD,h57])]
       repeat' (first|(simp only [hd2,hi0,hb,e48,e57,aB,cJ,↓wA,↓wC,wB,cL,cK,a7,a8,bA,reduceIte,reduceCtorEq,aA,bB])|(with_reducible refine cP ?_ ?_; focus (simp only [dW]; omega))|((first|apply cG|apply cH|apply cF)<;>intro h<;>try simp only [h]))
     ·have e48:decide ((b.toNat:Int) < 48)=true:=decide_eq_true (by omega)
      rw [hno (by simp [mD,h48])]
      repeat' (first|(simp only [hd2,hi0,hb,e48,aB,cJ,↓wA,↓wC,wB,cL,cK,a7,a8,bA,reduceIte,reduceCtorEq,aA,bB])|(with_reducible refine cP ?_ ?_; focus (simp only [dW]; omega))|((first|apply cG|apply cH|apply cF)<;>intro h<;>try simp only [h]))
    ·intro hinv hd2
     have hall:(kZ s).all mD=true:=aK.2 fun b hb=>by
      obtain ⟨j,hj⟩:=List.getElem?_of_mem hb
      exact hinv j b (cV hj) hj
     have hbd:=mU (s:=kZ s) (i:=(kZ s).length) (aO _) (by omega) (fun j c hj hc=>hinv j c hj hc)
     rw [aN] at hbd
     have hvb:=aFc hwl.2 hall
     have hN:=aAf (rdV s) (by omega) (by omega)
     simp only [if_true,aQ,if_false] at hV
     rw [aN]
     by_cases he:Lib.itoa (rdV s)=s
     ·have de:decide (Lib.itoa (rdV s)=s)=true:=decide_eq_true he
      rw [aCO ⟨hwl.1,hwl.2,hall,he⟩]
      rw [hV] at hN de ⊢
      repeat' (first|(simp only [hd2,hlt,de,↓wA,↓wC,wB,cL,cK,a7,a8,bA,reduceIte,reduceCtorEq,aA,bB])|(refine cI (hN) rfl rfl ?_)|(refine cM (hN) rfl rfl ?_)|(with_reducible refine cP ?_ ?_; focus (simp only [dW]; omega))|((first|apply cG|apply cH|apply cF)<;>intro h<;>try simp only [h]))
     ·have de:decide (Lib.itoa (rdV s)=s)=false:=decide_eq_false he
      rw [m4 fun h=>he h.2.2.2]
      rw [hV] at hN de
      repeat' (first|(simp only [hd2,hlt,de,↓wA,↓wC,wB,cL,cK,a7,a8,bA,reduceIte,reduceCtorEq,aA,bB])|(refine cI (hN) rfl rfl ?_)|(refine cM (hN) rfl rfl ?_)|(with_reducible refine cP ?_ ?_; focus (simp only [dW]; omega))|((first|apply cG|apply cH|apply cF)<;>intro h<;>try simp only [h]))
  ·have hps:=aM.2 ht
   have d1:decide ((1:Int) < (s.length:Int))=true:=decide_eq_true (by rw [hbt,aL]; omega)
   have d1':s[(0:Int).toNat]?=some b:=by rw [hbt]; rfl
   refine cW aKO [[1,1,1,0,0]] ?_
   dsimp only [aKO,cT,c7]
   repeat' (first|(simp only [cJ,d1,d1',hb,↓wA,↓wC,wB,cL,cK,a7,a8,bA,reduceIte,reduceCtorEq,aA,bB])|(with_reducible refine cQ ?_ ?_; focus omega)|((first|apply cG|apply cH|apply cF)<;>intro h<;>try simp only [h]))
   refine c8 (s':=⟨[(0,.d (.str s)),(4,.d (.str (kZ s)))],[]⟩) (cU [] rfl ⟨⟨rfl,rfl⟩,⟨congrArg (fun x=>SV.d (.str x)) hU,rfl⟩,trivial⟩) ?_
   clear hU
   have hW:=iK ((kZ s).length:Int) 1 6
   cases hw:dC ((kZ s).length:Int) 1 6 with
   | false =>
    rw [hw] at hW
    rw [m4 (fun h=>by
     have:dC ((kZ s).length:Int) 1 6=true:=by simp only [dC,aG,decide_eq_true_eq]; omega
     rw [hw] at this; cases this)]
    repeat' (first|(simp only [↓wA,↓wC,wB,cL,cK,a7,a8,bA,reduceIte,reduceCtorEq,aA,bB])|(refine cI (hW) rfl rfl ?_)|(refine cM (hW) rfl rfl ?_)|((first|apply cG|apply cH|apply cF)<;>intro h<;>try simp only [h]))
   | true =>
    rw [hw] at hW
    have hwl:1<=(kZ s).length/\(kZ s).length<=6:=by
     simp only [dC,aG,decide_eq_true_eq] at hw; omega
    repeat' (first|(simp only [↓wA,↓wC,wB,cL,cK,a7,a8,bA,reduceIte,reduceCtorEq,aA,bB])|(refine cI (hW) rfl rfl ?_)|(refine cM (hW) rfl rfl ?_)|((first|apply cG|apply cH|apply cF)<;>intro h<;>try simp only [h]))
    refine dR (kZ s).length (fun i:Nat=>⟨[(0,.d (.str s)),(4,.d (.str (kZ s))),(5,.d (.int .i64 (tX ((kZ s).take i)))),(6,.d (.int .i64 i))],[]⟩) (fun i=>∀ j b,j < i->(kZ s)[j]?=some b->mD b=true) (cU _ rfl ⟨⟨rfl,rfl⟩,⟨rfl,rfl⟩,⟨rfl,rfl⟩,⟨rfl,rfl⟩,trivial⟩) (fun j r hj=>by omega) ?_ ?_
    ·intro i hlti hinv hd2 hi0
     obtain ⟨b,hb⟩:=dQ hlti
     have hbd:=mU (i:=i) (by omega) (by omega) (fun j c hj hc=>hinv j c hj hc)
     have hst:=zH hb
     have hno:mD b=false->rdR s=[.int .i64 0,.bool false]:=fun h=>m4 fun hh=>by
      have:=aK.1 hh.2.2.1 b (aH hb)
      rw [h] at this; cases this
     by_cases h48:48<=b.toNat
     ·have e48:decide ((b.toNat:Int) < 48)=false:=decide_eq_false (by omega)
      by_cases h57:b.toNat<=57
      ·have e57:decide ((57:Int) < (b.toNat:Int))=false:=decide_eq_false (by omega)
       repeat' (first|(simp only [hd2,hi0,hb,e48,e57,aB,cJ,↓wA,↓wC,wB,cL,cK,a7,a8,bA,reduceIte,reduceCtorEq,aA,bB])|(with_reducible refine cP ?_ ?_; focus (simp only [dW]; omega))|((first|apply cG|apply cH|apply cF)<;>intro h<;>try simp only [h]))
       all_goals
        refine fH (cU _ rfl ⟨⟨rfl,rfl⟩,⟨rfl,rfl⟩,⟨congrArg (fun n=>SV.d (.int .i64 n)) hst.symm,rfl⟩,⟨rfl,rfl⟩,trivial⟩) hlti fun j c hj hc=>?_
        by_cases e:j=i
        ·subst e; rw [hb] at hc; injection hc with hc; rw [<- hc]; simp [mD,h48,h57]
        ·exact hinv j c (by omega) hc
      ·have e57:decide ((57:Int) < (b.toNat:Int))=true:=decide_eq_true (by omega)
       rw [hno (by simp [mD,h57])]
       repeat' (first|(simp only [hd2,hi0,hb,e48,e57,aB,cJ,↓wA,↓wC,wB,cL,cK,a7,a8,bA,reduceIte,reduceCtorEq,aA,bB])|(with_reducible refine cP ?_ ?_; focus (simp only [dW]; omega))|((first|apply cG|apply cH|apply cF)<;>intro h<;>try simp only [h]))
     ·have e48:decide ((b.toNat:Int) < 48)=true:=decide_eq_true (by omega)
      rw [hno (by simp [mD,h48])]
      repeat' (first|(simp only [hd2,hi0,hb,e48,aB,cJ,↓wA,↓wC,wB,cL,cK,a7,a8,bA,reduceIte,reduceCtorEq,aA,bB])|(with_reducible refine cP ?_ ?_; focus (simp only [dW]; omega))|((first|apply cG|apply cH|apply cF)<;>intro h<;>try simp only [h]))
    ·intro hinv hd2
     have hall:(kZ s).all mD=true:=aK.2 fun b hb=>by
      obtain ⟨j,hj⟩:=List.getElem?_of_mem hb
      exact hinv j b (cV hj) hj
     have hbd:=mU (s:=kZ s) (i:=(kZ s).length) (aO _) (by omega) (fun j c hj hc=>hinv j c hj hc)
     rw [aN] at hbd
     have hvb:=aFc hwl.2 hall
     have hN:=aAf (rdV s) (by omega) (by omega)
     simp only [if_true,aQ,if_false] at hV
     rw [aN]
     by_cases he:Lib.itoa (rdV s)=s
     ·have de:decide (Lib.itoa (rdV s)=s)=true:=decide_eq_true he
      rw [aCO ⟨hwl.1,hwl.2,hall,he⟩]
      rw [hV] at hN de ⊢
      repeat' (first|(simp only [hd2,hlt,de,↓wA,↓wC,wB,cL,cK,a7,a8,bA,reduceIte,reduceCtorEq,aA,bB])|(refine cI (hN) rfl rfl ?_)|(refine cM (hN) rfl rfl ?_)|(with_reducible refine cP ?_ ?_; focus (simp only [dW]; omega))|((first|apply cG|apply cH|apply cF)<;>intro h<;>try simp only [h]))
     ·have de:decide (Lib.itoa (rdV s)=s)=false:=decide_eq_false he
      rw [m4 fun h=>he h.2.2.2]
      rw [hV] at hN de
      repeat' (first|(simp only [hd2,hlt,de,↓wA,↓wC,wB,cL,cK,a7,a8,bA,reduceIte,reduceCtorEq,aA,bB])|(refine cI (hN) rfl rfl ?_)|(refine cM (hN) rfl rfl ?_)|(with_reducible refine cP ?_ ?_; focus (simp only [dW]; omega))|((first|apply cG|apply cH|apply cF)<;>intro h<;>try simp only [h]))
end Go.Pe.Tryz
namespace Go.Pe.Tryz
@[reducible] def nG : List UInt8 := [119, 97, 105, 116]
@[reducible] def kI : List UInt8 := [101, 110, 116, 101, 114]
@[reducible] def oM : List UInt8 := [104, 111, 108, 100]
@[reducible] def gF : List UInt8 := [114, 101, 108, 101, 97, 115, 101]
@[reducible] def kW : List UInt8 := [100, 101, 108, 97, 121]
@[reducible] def tW : List UInt8 := [97, 99, 116]
@[reducible] def uV : List UInt8 := [100, 97, 121]
@[reducible] def uA : List UInt8 := [100, 117, 101]
@[reducible] def gN : List UInt8 := [98, 108, 111, 99, 107, 101, 100]
@[reducible] def oH : List UInt8 := [114, 111, 111, 116]
@[reducible] def n7 : List UInt8 := [104, 101, 108, 100]
@[reducible] def oS : List UInt8 := [99, 97, 115, 101]
@[reducible] def qD : List (List UInt8 × Int) := [(nG, 1), (kI, 3), (oM, 2), (gF, 1), (kW, 2), (tW, 1), (uV, 0), (uA, 0), (gN, 0), (oH, 0), (n7, 1), (oS, 1)]
def o5:List (List UInt8)->Option (List Int)
 | []=>some []
 | w :: ws=>match kM w with
  | some n=>(o5 ws).map (n :: ·)
  | none=>none
def n0 (n:List Int):Int:=n[0]?.getD 0
def n1' (n:List Int):Int:=n[1]?.getD 0
def n2' (n:List Int):Int:=n[2]?.getD 0
def mB (w:List UInt8) (n:List Int):Option Stp :=
 if w=nG then some ⟨1,0,0,n0 n⟩
 else if w=kI then some ⟨2,n0 n,n1' n,n2' n⟩
 else if w=oM then some ⟨3,n0 n,0,n1' n⟩
 else if w=gF then some ⟨4,0,0,n0 n⟩
 else if w=kW then some ⟨5,n0 n,0,n1' n⟩
 else if w=tW then some ⟨6,n0 n,0,0⟩
 else none
def m8 (l:List Int):List UInt8:=if l=[] then [110,111,110,101] else Lib.join (l.map Lib.itoa) [32]
def aAX (p:Cs->Bool) (o:Off):Option (List Int):=if dP o=true then some (mR p o.cs) else none
def aAq (n:Int) (o:Off):Option (List Int):=if (dP o && dC n 1 9)=true then some (mR (aCD n) o.cs) else none
def aEj (o:Off):Option Int:=if dP o=true/\eN o.led=true then some (nH (o.led.map j6)) else none
def kH (o:Off) (id:Int):Option (List UInt8):=if dP o=true/\0<=fV o.cs id then some (txt (o.cs[(fV o.cs id).toNat]?.getD ⟨0,0,0,[]⟩)) else none
def aF1 (o:Off):List Int:=[o.kept,o.moved,o.led.length]
def fO (b o:Off) (w:List UInt8) (n:List Int):Option (List UInt8) :=
 if w=nG\/w=uV then some (Lib.itoa o.day)
 else if w=gF then (aAq (n0 n) b).map m8
 else if w=tW then some (m8 (aF1 o))
 else if w=uA then (aAX (rE o) o).map m8
 else if w=gN then (aAX (rD o) o).map m8
 else if w=oH then (aEj o).map Lib.itoa
 else if w=n7 then (aAq (n0 n) o).map m8
 else kH o (n0 n)
def aA8 (o:Off) (w:List UInt8) (ws:List (List UInt8)):Option (Off×List UInt8) :=
 match o5 ws with
 | none=>none
 | some n=>if lkp qD w=some (n.length:Int) then
   (match mB w n with
   | some s=>match gZ o s.k s.i s.a s.v with
    | some q=>(fO o q w n).map fun r=>(q,r)
    | none=>none
   | none=>(fO o o w n).map fun r=>(o,r))
  else none
def qm:List UInt8:=[63]
def tQ (l:Option (List Int)):List UInt8:=(l.map m8).getD qm
def aBQ (o:Off) (id:Int):List UInt8:=(kH o id).getD qm
def oR (o:Off) (s:Stp):Off×List UInt8 :=
 match gZ o s.k s.i s.a s.v with
 | none=>(o,qm)
 | some q=>(q,if s.k=1 then Lib.itoa q.day else if s.k=4 then tQ (aAq s.v o) else if s.k=6 then tQ (some (aF1 q)) else aBQ q s.i)
def lP (o:Off) (l:List UInt8):List UInt8 :=
 if l=uV then Lib.itoa o.day
 else if l=uA then tQ (aAX (rE o) o)
 else if l=gN then tQ (aAX (rD o) o)
 else if l=oH then ((aEj o).map Lib.itoa).getD qm
 else qm
def pO (o:Off) (w:List UInt8) (n:Int):Off×List UInt8 :=
 if w=nG then oR o ⟨1,0,0,n⟩
 else if w=gF then oR o ⟨4,0,0,n⟩
 else if w=tW then oR o ⟨6,n,0,0⟩
 else if w=n7 then (o,tQ (aAq n o))
 else if w=oS then (o,aBQ o n)
 else (o,qm)
def rN (o:Off) (w:List UInt8) (n v:Int):Off×List UInt8 :=
 if w=oM then oR o ⟨3,n,0,v⟩
 else if w=kW then oR o ⟨5,n,0,v⟩
 else (o,qm)
def oU (o:Off) (w:List UInt8) (ws:List (List UInt8)):Off×List UInt8 :=
 match o5 ws with
 | none=>(o,qm)
 | some []=>(o,lP o w)
 | some [a]=>pO o w a
 | some [a,b]=>rN o w a b
 | some [a,b,c]=>if w=kI then oR o ⟨2,a,b,c⟩ else (o,qm)
 | some _=>(o,qm)
theorem aCA {xs:List Cs} {id:Int} {x:Cs} (hx:x∈xs) (hi:x.i=id):0<=fV xs id:=by
 have h:decide (0<=fV xs id)=true:=by
  unfold fV
  rw [r6]
  exact List.any_eq_true.2 ⟨x,hx,decide_eq_true hi⟩
 exact of_decide_eq_true h
theorem aHp {o q:Off} {k id a v:Int} (h:gZ o k id a v=some q):mkO o k id a v=some q:=by
 unfold gZ at h
 split at h
 ·cases hm:mkO o k id a v with
  | none=>rw [hm] at h; cases h
  | some p =>
   rw [hm] at h
   simp only [Option.filter] at h
   split at h
   ·exact h
   ·cases h
 ·cases h
theorem aNG {o q:Off} {k id a v:Int} (hk:k=2\/k=3\/k=5) (h:gZ o k id a v=some q):0<=fV q.cs id:=by
 have hm:=aHp h
 unfold mkO at hm
 by_cases k2:k=2
 ·rw [if_pos k2] at hm
  split at hm
  ·cases hm
  ·injection hm with hm
   subst hm
   exact aCA (aEk ⟨id,a,o.day + v,[]⟩ o.cs) rfl
 ·rw [if_neg k2] at hm
  split at hm
  ·cases hm
  rw [if_neg (by omega),if_neg (by omega)] at hm
  split at hm
  ·rename_i hf
   rcases mQ o.cs id with ⟨_,hn⟩|⟨i,x,hi,hr,hx⟩
   ·exact absurd hf (of_decide_eq_false hn)
   ·rw [hi,aB,hr] at hm
    simp only at hm
    split at hm
    ·split at hm
     ·cases hm
     ·injection hm with hm
      subst hm
      exact aCA (x:={ x with h:=kQ v x.h }) (aBl hr) hx
    ·split at hm
     ·split at hm
      ·injection hm with hm
       subst hm
       exact aCA (x:={ x with d:=x.d + v }) (aBl hr) hx
      ·cases hm
     ·omega
  ·cases hm
theorem nO {o q:Off} {k id a v:Int} (hk:k=2\/k=3\/k=5) (h:gZ o k id a v=some q):∃ r,kH q id=some r:=by
 unfold kH
 rw [if_pos ⟨yI h,aNG hk h⟩]
 exact ⟨_,rfl⟩
theorem aDK {o q:Off} {a v:Int} (h:gZ o 4 0 a v=some q):∃ l,aAq v o=some l:=by
 have ho:dP o=true:=by
  cases hh:dP o with
  | true=>rfl
  | false=>unfold gZ at h; rw [hh] at h; cases h
 unfold aAq
 rw [ho]
 cases hw:dC v 1 9 with
 | true=>exact ⟨_,rfl⟩
 | false =>
  have hm:=aHp h
  unfold mkO at hm
  rw [if_neg (by decide)] at hm
  split at hm
  ·cases hm
  rw [if_neg (by decide),if_pos rfl] at hm
  split at hm
  ·rename_i hc
   have hv:v < 1\/9 < v:=by
    by_cases q:1<=v/\v<=9
    ·rw [jW q.1 q.2] at hw; cases hw
    ·omega
   rw [aJL ho hv] at hc
   cases hc.2
  ·cases hm
theorem zG:lkp qD nG=some 1:=by decide
theorem vA:lkp qD kI=some 3:=by decide
theorem zL:lkp qD oM=some 2:=by decide
theorem pG:lkp qD gF=some 1:=by decide
theorem vK:lkp qD kW=some 2:=by decide
theorem aEb:lkp qD tW=some 1:=by decide
theorem aC6:lkp qD uV=some 0:=by decide
theorem aB9:lkp qD uA=some 0:=by decide
theorem nN:lkp qD gN=some 0:=by decide
theorem wV:lkp qD oH=some 0:=by decide
theorem xC:lkp qD n7=some 1:=by decide
theorem wZ:lkp qD oS=some 1:=by decide
theorem aSY (n:List Int):mB nG n=some ⟨1,0,0,n0 n⟩:=rfl
theorem aJw (n:List Int):mB kI n=some ⟨2,n0 n,n1' n,n2' n⟩:=rfl
theorem aMy (n:List Int):mB oM n=some ⟨3,n0 n,0,n1' n⟩:=rfl
theorem aEm (n:List Int):mB gF n=some ⟨4,0,0,n0 n⟩:=rfl
theorem aJg (n:List Int):mB kW n=some ⟨5,n0 n,0,n1' n⟩:=rfl
theorem aVa (n:List Int):mB tW n=some ⟨6,n0 n,0,0⟩:=rfl
theorem aMG (n:List Int):mB uV n=none:=rfl
theorem aLQ (n:List Int):mB uA n=none:=rfl
theorem aAo (n:List Int):mB gN n=none:=rfl
theorem aIK (n:List Int):mB oH n=none:=rfl
theorem aIf (n:List Int):mB n7 n=none:=rfl
theorem aIp (n:List Int):mB oS n=none:=rfl
theorem aNy (b o:Off) (n:List Int):fO b o nG n=some (Lib.itoa o.day):=rfl
theorem aJs (b o:Off) (n:List Int):fO b o kI n=kH o (n0 n):=rfl
theorem aNH (b o:Off) (n:List Int):fO b o oM n=kH o (n0 n):=rfl
theorem aDT (b o:Off) (n:List Int):fO b o gF n=(aAq (n0 n) b).map m8:=rfl
theorem aJd (b o:Off) (n:List Int):fO b o kW n=kH o (n0 n):=rfl
theorem aQO (b o:Off) (n:List Int):fO b o tW n=some (m8 (aF1 o)):=rfl
theorem aQR (b o:Off) (n:List Int):fO b o uV n=some (Lib.itoa o.day):=rfl
theorem aQ3 (b o:Off) (n:List Int):fO b o uA n=(aAX (rE o) o).map m8:=rfl
theorem aEg (b o:Off) (n:List Int):fO b o gN n=(aAX (rD o) o).map m8:=rfl
theorem aLH (b o:Off) (n:List Int):fO b o oH n=(aEj o).map Lib.itoa:=rfl
theorem aMl (b o:Off) (n:List Int):fO b o n7 n=(aAq (n0 n) o).map m8:=rfl
theorem aMw (b o:Off) (n:List Int):fO b o oS n=kH o (n0 n):=rfl
theorem aTb (o:Off):lP o nG=qm:=rfl
theorem aSp (o:Off) (n:Int):pO o nG n=oR o ⟨1,0,0,n⟩:=rfl
theorem aSN (o:Off) (n v:Int):rN o nG n v=(o,qm):=rfl
theorem aPZ (o:Off):lP o kI=qm:=rfl
theorem aOI (o:Off) (n:Int):pO o kI n=(o,qm):=rfl
theorem aOO (o:Off) (n v:Int):rN o kI n v=(o,qm):=rfl
theorem aTy (o:Off):lP o oM=qm:=rfl
theorem aS8 (o:Off) (n:Int):pO o oM n=(o,qm):=rfl
theorem aS6 (o:Off) (n v:Int):rN o oM n v=oR o ⟨3,n,0,v⟩:=rfl
theorem aJX (o:Off):lP o gF=qm:=rfl
theorem aLj (o:Off) (n:Int):pO o gF n=oR o ⟨4,0,0,n⟩:=rfl
theorem aK0 (o:Off) (n v:Int):rN o gF n v=(o,qm):=rfl
theorem aOt (o:Off):lP o kW=qm:=rfl
theorem aP1 (o:Off) (n:Int):pO o kW n=(o,qm):=rfl
theorem aO4 (o:Off) (n v:Int):rN o kW n v=oR o ⟨5,n,0,v⟩:=rfl
theorem aUe (o:Off):lP o tW=qm:=rfl
theorem aVI (o:Off) (n:Int):pO o tW n=oR o ⟨6,n,0,0⟩:=rfl
theorem aUV (o:Off) (n v:Int):rN o tW n v=(o,qm):=rfl
theorem aRW (o:Off):lP o uV=Lib.itoa o.day:=rfl
theorem aUh (o:Off) (n:Int):pO o uV n=(o,qm):=rfl
theorem aTT (o:Off) (n v:Int):rN o uV n v=(o,qm):=rfl
theorem aR3 (o:Off):lP o uA=tQ (aAX (rE o) o):=rfl
theorem aVs (o:Off) (n:Int):pO o uA n=(o,qm):=rfl
theorem aUR (o:Off) (n v:Int):rN o uA n v=(o,qm):=rfl
theorem aDZ (o:Off):lP o gN=tQ (aAX (rD o) o):=rfl
theorem aKS (o:Off) (n:Int):pO o gN n=(o,qm):=rfl
theorem aKk (o:Off) (n v:Int):rN o gN n v=(o,qm):=rfl
theorem aMv (o:Off):lP o oH=((aEj o).map Lib.itoa).getD qm:=rfl
theorem aSx (o:Off) (n:Int):pO o oH n=(o,qm):=rfl
theorem aTd (o:Off) (n v:Int):rN o oH n v=(o,qm):=rfl
theorem aSr (o:Off):lP o n7=qm:=rfl
theorem aMg (o:Off) (n:Int):pO o n7 n=(o,tQ (aAq n o)):=rfl
theorem aS1 (o:Off) (n v:Int):rN o n7 n v=(o,qm):=rfl
theorem aSl (o:Off):lP o oS=qm:=rfl
theorem aNd (o:Off) (n:Int):pO o oS n=(o,aBQ o n):=rfl
theorem aSf (o:Off) (n v:Int):rN o oS n v=(o,qm):=rfl
theorem o8 (w:List UInt8):w=nG\/w=kI\/w=oM\/w=gF\/w=kW\/w=tW\/w=uV\/w=uA\/w=gN\/w=oH\/w=n7\/w=oS\/(w≠nG/\w≠kI/\w≠oM/\w≠gF/\w≠kW/\w≠tW/\w≠uV/\w≠uA/\w≠gN/\w≠oH/\w≠n7/\w≠oS):=by
 by_cases hWait:w=nG
 ·simp [hWait]
 by_cases hEnter:w=kI
 ·simp [hEnter]
 by_cases hHold:w=oM
 ·simp [hHold]
 by_cases hRelease:w=gF
 ·simp [hRelease]
 by_cases hDelay:w=kW
 ·simp [hDelay]
 by_cases hAct:w=tW
 ·simp [hAct]
 by_cases hDay:w=uV
 ·simp [hDay]
 by_cases hDue:w=uA
 ·simp [hDue]
 by_cases hBlocked:w=gN
 ·simp [hBlocked]
 by_cases hRoot:w=oH
 ·simp [hRoot]
 by_cases hHeld:w=n7
 ·simp [hHeld]
 by_cases hCase:w=oS
 ·simp [hCase]
 simp [hWait,hEnter,hHold,hRelease,hDelay,hAct,hDay,hDue,hBlocked,hRoot,hHeld,hCase]
theorem xD {w:List UInt8} (h:w≠nG/\w≠kI/\w≠oM/\w≠gF/\w≠kW/\w≠tW/\w≠uV/\w≠uA/\w≠gN/\w≠oH/\w≠n7/\w≠oS):lkp qD w=none:=by
 obtain ⟨h0,h1,h2,h3,h4,h5,h6,h7,h8,h9,lB,h11⟩:=h
 simp only [qD,lkp,if_neg h0,if_neg h1,if_neg h2,if_neg h3,if_neg h4,if_neg h5,if_neg h6,if_neg h7,if_neg h8,if_neg h9,if_neg lB,if_neg h11,if_false]
theorem aJq (o:Off) (w:List UInt8) (ws:List (List UInt8)) (ho:dP o=true):oU o w ws=(aA8 o w ws).getD (o,qm):=by
 unfold oU aA8
 have hm:∀ (s:Stp) (f:Off->Option (List UInt8)),(∀ q,gZ o s.k s.i s.a s.v=some q->(if s.k=1 then Lib.itoa q.day else if s.k=4 then tQ (aAq s.v o) else if s.k=6 then tQ (some (aF1 q)) else aBQ q s.i)=(f q).getD qm/\(f q).isSome=true) ->
   oR o s=((match gZ o s.k s.i s.a s.v with
    | some q=>(f q).map fun r=>(q,r)
    | none=>none):Option (Off×List UInt8)).getD (o,qm):=by
  intro s f hf
  unfold oR
  cases h:gZ o s.k s.i s.a s.v with
  | none=>rfl
  | some q =>
   obtain ⟨h1,h2⟩:=hf q h
   simp only
   rw [h1]
   cases hq:f q with
   | none=>rw [hq] at h2; cases h2
   | some r=>rfl
 have hg:∀ x:Option (List UInt8),(x.map fun r=>(o,r)).getD (o,qm)=(o,x.getD qm):=fun x=>by cases x<;>rfl
 have hl:∀ x:Option (List Int),(x.map m8).getD qm=tQ x:=fun x=>rfl
 have hla:∀ x:List Int,tQ (some x)=m8 x:=fun x=>rfl
 have hcs:∀ (q:Off) (i:Int),(kH q i).getD qm=aBQ q i:=fun _ _=>rfl
 cases hn:o5 ws with
 | none=>rfl
 | some n =>
  have hn0:n0 n=n0 n:=rfl
  match n,hn with
  | [],_ =>
   rcases o8 w with rfl|rfl|rfl|rfl|rfl|rfl|rfl|rfl|rfl|rfl|rfl|rfl|h
   ·simp only [zG,aTb]
    rfl
   ·simp only [vA,aPZ]
    rfl
   ·simp only [zL,aTy]
    rfl
   ·simp only [pG,aJX]
    rfl
   ·simp only [vK,aOt]
    rfl
   ·simp only [aEb,aUe]
    rfl
   ·simp only [aC6,aMG,aQR,aRW]
    rw [if_pos (show (some 0:Option Int)=some (((([]:List Int)).length:Nat):Int) from rfl),hg]
    try rfl
   ·simp only [aB9,aLQ,aQ3,aR3]
    rw [if_pos (show (some 0:Option Int)=some (((([]:List Int)).length:Nat):Int) from rfl),hg]
    try rfl
   ·simp only [nN,aAo,aEg,aDZ]
    rw [if_pos (show (some 0:Option Int)=some (((([]:List Int)).length:Nat):Int) from rfl),hg]
    try rfl
   ·simp only [wV,aIK,aLH,aMv]
    rw [if_pos (show (some 0:Option Int)=some (((([]:List Int)).length:Nat):Int) from rfl),hg]
    try rfl
   ·simp only [xC,aSr]
    rfl
   ·simp only [wZ,aSl]
    rfl
   ·simp only [xD h]
    rw [if_neg (fun e=>by cases e)]
    unfold lP
    rw [if_neg h.2.2.2.2.2.2.1,if_neg h.2.2.2.2.2.2.2.1,if_neg h.2.2.2.2.2.2.2.2.1,if_neg h.2.2.2.2.2.2.2.2.2.1]
    rfl
  | [a],_ =>
   rcases o8 w with rfl|rfl|rfl|rfl|rfl|rfl|rfl|rfl|rfl|rfl|rfl|rfl|h
   ·exact hm ⟨1,0,0,a⟩ (fun q=>some (Lib.itoa q.day)) (fun q _=>⟨rfl,rfl⟩)
   ·simp only [vA,aOI]
    rfl
   ·simp only [zL,aS8]
    rfl
   ·exact hm ⟨4,0,0,a⟩ (fun _=>(aAq a o).map m8) (fun q h=>by
     obtain ⟨l,hl⟩:=aDK h
     exact ⟨by simp only [hl]; rfl,by simp only [hl]; rfl⟩)
   ·simp only [vK,aP1]
    rfl
   ·exact hm ⟨6,a,0,0⟩ (fun q=>some (m8 (aF1 q))) (fun q _=>⟨rfl,rfl⟩)
   ·simp only [aC6,aUh]
    rfl
   ·simp only [aB9,aVs]
    rfl
   ·simp only [nN,aKS]
    rfl
   ·simp only [wV,aSx]
    rfl
   ·simp only [xC,aIf,aMl,aMg]
    rw [if_pos (show (some 1:Option Int)=some (((([a]:List Int)).length:Nat):Int) from rfl),hg]
    try rfl
   ·simp only [wZ,aIp,aMw,aNd]
    rw [if_pos (show (some 1:Option Int)=some (((([a]:List Int)).length:Nat):Int) from rfl),hg]
    try rfl
   ·simp only [xD h]
    rw [if_neg (fun e=>by cases e)]
    unfold pO
    rw [if_neg h.1,if_neg h.2.2.2.1,if_neg h.2.2.2.2.2.1,if_neg h.2.2.2.2.2.2.2.2.2.2.1,if_neg h.2.2.2.2.2.2.2.2.2.2.2]
    rfl
  | [a,b],_ =>
   rcases o8 w with rfl|rfl|rfl|rfl|rfl|rfl|rfl|rfl|rfl|rfl|rfl|rfl|h
   ·simp only [zG,aSN]
    rfl
   ·simp only [vA,aOO]
    rfl
   ·exact hm ⟨3,a,0,b⟩ (fun q=>kH q a) (fun q h=>by
     obtain ⟨r,hr⟩:=nO (by simp) h
     exact ⟨rfl,by simp only [hr]; rfl⟩)
   ·simp only [pG,aK0]
    rfl
   ·exact hm ⟨5,a,0,b⟩ (fun q=>kH q a) (fun q h=>by
     obtain ⟨r,hr⟩:=nO (by simp) h
     exact ⟨rfl,by simp only [hr]; rfl⟩)
   ·simp only [aEb,aUV]
    rfl
   ·simp only [aC6,aTT]
    rfl
   ·simp only [aB9,aUR]
    rfl
   ·simp only [nN,aKk]
    rfl
   ·simp only [wV,aTd]
    rfl
   ·simp only [xC,aS1]
    rfl
   ·simp only [wZ,aSf]
    rfl
   ·simp only [xD h]
    rw [if_neg (fun e=>by cases e)]
    unfold rN
    rw [if_neg h.2.2.1,if_neg h.2.2.2.2.1]
    rfl
  | [a,b,c],_ =>
   rcases o8 w with rfl|rfl|rfl|rfl|rfl|rfl|rfl|rfl|rfl|rfl|rfl|rfl|h
   ·simp only [zG]
    rfl
   ·exact hm ⟨2,a,b,c⟩ (fun q=>kH q a) (fun q h=>by
     obtain ⟨r,hr⟩:=nO (by simp) h
     exact ⟨rfl,by simp only [hr]; rfl⟩)
   ·simp only [zL]
    rfl
   ·simp only [pG]
    rfl
   ·simp only [vK]
    rfl
   ·simp only [aEb]
    rfl
   ·simp only [aC6]
    rfl
   ·simp only [aB9]
    rfl
   ·simp only [nN]
    rfl
   ·simp only [wV]
    rfl
   ·simp only [xC]
    rfl
   ·simp only [wZ]
    rfl
   ·simp only [xD h]
    rw [if_neg h.2.1,if_neg (show ¬ (none:Option Int)=some _ from fun e=>by cases e)]
    rfl
  | a :: b :: c :: d :: r,_ =>
   have hlen:∀ m:Int,m<=3->¬ (some m:Option Int)=some (((a :: b :: c :: d :: r).length:Nat):Int):=fun m hm e=>by
    injection e with e
    simp only [aL] at e
    omega
   rcases o8 w with rfl|rfl|rfl|rfl|rfl|rfl|rfl|rfl|rfl|rfl|rfl|rfl|h
   ·simp only [zG]
    rw [if_neg (hlen _ (by decide))]
    rfl
   ·simp only [vA]
    rw [if_neg (hlen _ (by decide))]
    rfl
   ·simp only [zL]
    rw [if_neg (hlen _ (by decide))]
    rfl
   ·simp only [pG]
    rw [if_neg (hlen _ (by decide))]
    rfl
   ·simp only [vK]
    rw [if_neg (hlen _ (by decide))]
    rfl
   ·simp only [aEb]
    rw [if_neg (hlen _ (by decide))]
    rfl
   ·simp only [aC6]
    rw [if_neg (hlen _ (by decide))]
    rfl
   ·simp only [aB9]
    rw [if_neg (hlen _ (by decide))]
    rfl
   ·simp only [nN]
    rw [if_neg (hlen _ (by decide))]
    rfl
   ·simp only [wV]
    rw [if_neg (hlen _ (by decide))]
    rfl
   ·simp only [xC]
    rw [if_neg (hlen _ (by decide))]
    rfl
   ·simp only [wZ]
    rw [if_neg (hlen _ (by decide))]
    rfl
   ·simp only [xD h]
    rw [if_neg (fun e=>by cases e)]
    rfl
end Go.Pe.Tryz
namespace Go.Pe.Tryz
open Go.Proofs.Tryz
theorem lB:decide ((1:Int) < 0)=false:=by decide
end Go.Pe.Tryz
