/- Steps of an office: the reference's l25Make; walked; Steps of an office: the reference's StepOffice and RunOffice; walked; Steps of an office: the law of StepOffice; Runs of steps of an office: the reference's RunOffice; walked; Runs of steps of an office: the law of RunOffice; Runs of steps of an office: the law of RunOffice, walked; Numbers read out of texts, as plain lists of bytes; a text cut at several bytes; Numbers read out of texts; texts cut: walked; A console's answers, as plain lists: the program's road and the reference's agree; A new office, and what the laws do with its parts, walked; The law of NewConsole, walked; Numbers read out of texts, texts split at blanks, lists of numbers as texts, as a console has them: walked; A command's step and its reply: the program's stepFor and replyOf, walked -/
import Derived.Test.YtjmobminbckhjaaGreatDoorW4
import Derived.Test.YtjmobminbckhjaaGreatDoorPeD
import Derived.Test.YtjmobminbckhjaaGreatDoorMc1
import Derived.Test.YtjmobminbckhjaaGreatDoorMc2
import Derived.Test.YtjmobminbckhjaaGreatDoorMc3
import Derived.Test.YtjmobminbckhjaaGreatDoorMc4
import Derived.Test.YtjmobminbckhjaaGreatDoorMc5
import Derived.Test.YtjmobminbckhjaaGreatDoorMc6
import Derived.Test.YtjmobminbckhjaaGreatDoorMc7
import Derived.Test.YtjmobminbckhjaaGreatDoorMc8
import Derived.Test.YtjmobminbckhjaaGreatDoorW1
import Derived.Test.YtjmobminbckhjaaGreatDoorShelf
set_option maxRecDepth 100000
set_option maxHeartbeats 4000000
set_option linter.all false
open And renaming intro->aI
open Bool renaming and_eq_true->aF, false_eq_true->aP, and_true->bK
open Int renaming toNat_natCast->aB, reduceToNat->aM, eq_ofNat_of_zero_le->a6
open List renaming length_nil->aC, mem_of_getElem?->aD, length_cons->aH, length_pos_iff->aJ, all_eq_true->aK, take_length->aL, take_of_length_le->aN, mem_singleton->aO, cons_append->aQ, length_take->aR, mem_append->aS, mem_map->aT, drop_succ_cons->aU, length_append->aV, mem_cons_self->aW, map_cons->aX, extract_eq_take_drop->aY, length_drop->aZ, length_map->a7, nodup_nil->a8, mem_of_mem_take->bA, append_assoc->bC, nil_append->bD, drop_left'->bE, drop_drop->bF, drop_zero->bG, mem_cons->bH, map_nil->bP
open Nat renaming reduceBEq->aA, le_refl->aG, pow_le_pow_right->bB, add_assoc->bJ, add_zero->bL, add_comm->bM, reduceEqDiff->bQ, reduceAdd->bR, reduceSub->bT, reduceLT->bU
open Option renaming map_some->aE
namespace Go.Pe.Tryz
open Go.Proofs.Tryz
def MkR (o:Off) (k id a v:Int) (rs:List D):Prop:=∃ q:Off,rs=[q.w,.bool (vE o k id a v).isSome]/\∀ q',vE o k id a v=some q'->q'=q
theorem aIy {o q:Off} {k id a v:Int} (h:gZ o k id a v=some q):vE o k id a v=if dN q=true then some q else none:=by
 unfold vE; rw [h]; rfl
theorem rQ {o q:Off} {k id a v:Int} (h:gZ o k id a v=some q) {x:D} {b:Bool} (hx:x=q.w) (hb:b=dN q):MkR o k id a v [x,.bool b]:=by
 have hm:=aIy h
 refine ⟨q,?_,fun q' h'=>?_⟩
 ·rw [hx,hb,hm]
  cases dN q<;>rfl
 ·rw [hm] at h'
  split at h'
  ·injection h' with h'; exact h'.symm
  ·cases h'
theorem aAg {o:Off} {k id a v:Int} (q:Off) (h:gZ o k id a v=none) {x:D} (hx:x=q.w):MkR o k id a v [x,.bool false]:=by
 have hm:vE o k id a v=none:=by unfold vE; rw [h]; rfl
 exact ⟨q,by rw [hx,hm]; rfl,fun q' h'=>by rw [hm] at h'; cases h'⟩
theorem aYb (o:Off):o.w.unown=o.s:=by simp [Off.w,Off.s,dQ,D.unown,fK,gD]
theorem aYg (o:Off):o.w.noOwn=false:=by simp [Off.w,dQ,D.noOwn]
theorem rK {o q:Off} {k id a v:Int} (ho:dN o=true) (h:gZ o k id a v=some q):q.ok0:=by
 have hp:=eF ho
 have h0:=eU ho
 have hc:∀ (i:Nat) (x:Cs),o.cs[i]?=some x->gB x=true:=fun i x hr=>hp.2.2.2.2.2.2.2.2.2 x (aD hr)
 unfold gZ at h
 split at h
 ·split at h
  ·cases h
  ·injection h with h; subst h; exact h0
 split at h
 ·split at h
  ·cases h
  ·injection h with h
   subst h
   refine ⟨⟨?_,fun x hx=>?_⟩,h0.2⟩
   ·simp [iE]; omega
   ·rcases aS.1 hx with hx|hx
    ·exact h0.1.2 x (bA hx)
    ·rcases bH.1 hx with rfl|hx
     ·simp [Cs.ok0]
     ·exact h0.1.2 x (List.mem_of_mem_drop hx)
 split at h
 ·split at h
  ·injection h with h
   subst h
   refine ⟨⟨by simpa using h0.1.1,fun x hx=>?_⟩,h0.2⟩
   obtain ⟨y,hy,rfl⟩:=aT.1 hx
   exact Nat.le_trans (List.length_filter_le (fun n=>!decide (n=v)) y.h) (h0.1.2 y hy)
  ·cases h
 split at h
 ·rename_i x hr
  have hxc:=e8 (hc _ x hr)
  split at h
  ·split at h
   ·cases h
   ·injection h with h
    subst h
    refine ⟨aA4 h0.1 ?_,h0.2⟩
    show (j6 v x.h).length<=1048576
    rw [aF2]; omega
  ·split at h
   ·split at h
    ·cases h
    ·injection h with h
     subst h
     refine ⟨aA4 h0.1 ?_,h0.2⟩
     show x.h.length<=1048576
     omega
   ·split at h
    ·injection h with h
     subst h
     have he:∀ i,uZ (o.cs.eraseIdx i):=fun i=>⟨by have:=List.length_eraseIdx_le o.cs i; omega,fun y hy=>h0.1.2 y (List.mem_of_mem_eraseIdx hy)⟩
     unfold kM
     split
     ·exact ⟨he _,h0.2⟩
     ·split
      ·exact ⟨he _,h0.2⟩
      ·refine ⟨he _,by simp; omega,fun s hs=>?_⟩
       rcases aS.1 hs with hs|hs
       ·exact h0.2.2 s hs
       ·rw [aO.1 hs]
        have h1:=eL x.i (by simp only [dX]; omega)
        have h2:=eL o.day (by simp only [dX]; omega)
        simp [lK]; omega
    ·cases h
 ·cases h
theorem aNf (o:Off) (id a v:Int) (ho:dN o=true) (hs:lX o 1 id a v=true):Fn prog 129 [o.s,jD 1 id a v] (MkR o 1 id a v):=by
 have hk1:decide ((1:Int)=1)=true:=rfl
 have hk2:decide ((1:Int)=2)=false:=rfl
 have hk3:decide ((1:Int)=3)=false:=rfl
 have hk4:decide ((1:Int)=4)=false:=rfl
 have hk5:decide ((1:Int)=5)=false:=rfl
 have hp:=eF ho
 have ho0:=eU ho
 have hO:=jG o ho0
 have hF:=jU o id ho0
 have hv:1<=v:=by simp [lX] at hs; exact hs.2
 refine cW kL [[1,0],[1,0]] ?_
 dsimp only [kL,aAH,rF,cS,cE,cR,c8]
 try simp only [wQ]
 simp only [jD]
 repeat' (first|(simp only [aXW,aXX,cK,↓wA,↓wC,wB,cU,cT,bQ,bR,bT,reduceIte,reduceCtorEq,aA,bU,dF])|((first|apply cH|apply cI|apply cG)<;>intro h<;>try simp only [h]))
 refine dB (gJ 0 rfl) ?_
 simp only [cU,cT,aX1,↓wA,↓wC,wB,cU,cT,bQ,bR,bT,reduceIte,reduceCtorEq,aA,bU,dF]
 refine dB (gJ 1 rfl) ?_
 simp only [cU,cT,D.unown,↓wA,↓wC,wB,cU,cT,bQ,bR,bT,reduceIte,reduceCtorEq,aA,bU,dF]
 have hf0:∀ K:SV->Prop,dD 0 0 (.d (.ptr o.s)) K=K (.d (.ptr (.int .i64 o.day))):=fun K=>by simp [Off.s,dQ,dD,D.pre,D.nth]
 have hf1:∀ K:SV->Prop,dD 1 1 (.d (.ptr o.s)) K=K (.d (.ptr (.sl false 4 (dl Cs.s o.cs)))):=fun K=>by simp [Off.s,dQ,dD,D.pre,D.nth,D.size]
 cases hd:decide (20000 - o.day < v) with
 | true =>
  have hM:gZ o 1 id a v=none:=by unfold gZ; rw [if_pos rfl,if_pos (of_decide_eq_true hd)]
  repeat' (first|(simp only [Off.w,dQ,cY,cZ,hf0,hd,↓dL,cK,dP,↓wA,↓wC,wB,bQ,bR,reduceIte,aA,dF])|(refine dJ ?_)|(with_reducible refine aI ?_ ?_)|(refine cJ hO (by simp [dA,dK]) rfl ?_)|(refine cJ hF (by simp [dA,dK]) rfl ?_)|(with_reducible refine cM ?_ ?_; focus (simp only [dX]; omega))|((first|apply cH|apply cI|apply cG)<;>intro h<;>try simp only [h]))
  all_goals exact aAg o hM rfl
 | false =>
  have hM:gZ o 1 id a v=some { o with day:=o.day + v }:=by unfold gZ; rw [if_pos rfl,if_neg (of_decide_eq_false hd)]
  have hG:=fS _ (rK ho hM)
  have hd':=of_decide_eq_false hd
  have hu:(D.st (.cons (.int .i64 (o.day + v)) (.cons (.sl true 4 (dl Cs.s o.cs)) (.cons (.int .i64 o.kept) (.cons (.int .i64 o.moved) (.cons (.sl true 1 (dl D.str o.led)) .nil)))))).unown=Off.s { o with day:=o.day + v }:=aYb { o with day:=o.day + v }
  repeat' (first|(simp only [Off.w,dQ,cY,cZ,hf0,hd,↓dL,cK,dP,↓wA,↓wC,wB,bQ,bR,reduceIte,aA,dF])|(refine dJ ?_)|(with_reducible refine aI ?_ ?_)|(refine cJ hO (by simp [dA,dK]) rfl ?_)|(refine cJ hF (by simp [dA,dK]) rfl ?_)|(with_reducible refine cM ?_ ?_; focus (simp only [dX]; omega))|(refine cJ hG (congrArg (fun d:D=>some [d]) hu) rfl ?_)|(refine cL hG (congrArg (fun d:D=>some [d]) hu) rfl ?_)|((first|apply cH|apply cI|apply cG)<;>intro h<;>try simp only [h]))
  all_goals exact rQ hM rfl rfl
theorem aL2 (o:Off) (id a v:Int) (ho:dN o=true) (hs:lX o 2 id a v=true):Fn prog 129 [o.s,jD 2 id a v] (MkR o 2 id a v):=by
 have hk1:decide ((2:Int)=1)=false:=rfl
 have hk2:decide ((2:Int)=2)=true:=rfl
 have hk3:decide ((2:Int)=3)=false:=rfl
 have hk4:decide ((2:Int)=4)=false:=rfl
 have hk5:decide ((2:Int)=5)=false:=rfl
 have hp:=eF ho
 have ho0:=eU ho
 have hO:=jG o ho0
 have hF:=jU o id ho0
 have hv:0<=v:=by simp [lX] at hs; exact hs.2
 refine cW kL [[1,0],[1,0]] ?_
 dsimp only [kL,aAH,rF,cS,cE,cR,c8]
 try simp only [wQ]
 simp only [jD]
 repeat' (first|(simp only [aXW,aXX,cK,↓wA,↓wC,wB,cU,cT,bQ,bR,bT,reduceIte,reduceCtorEq,aA,bU,dF])|((first|apply cH|apply cI|apply cG)<;>intro h<;>try simp only [h]))
 refine dB (gJ 0 rfl) ?_
 simp only [cU,cT,aX1,↓wA,↓wC,wB,cU,cT,bQ,bR,bT,reduceIte,reduceCtorEq,aA,bU,dF]
 refine dB (gJ 1 rfl) ?_
 simp only [cU,cT,D.unown,↓wA,↓wC,wB,cU,cT,bQ,bR,bT,reduceIte,reduceCtorEq,aA,bU,dF]
 have hf0:∀ K:SV->Prop,dD 0 0 (.d (.ptr o.s)) K=K (.d (.ptr (.int .i64 o.day))):=fun K=>by simp [Off.s,dQ,dD,D.pre,D.nth]
 have hf1:∀ K:SV->Prop,dD 1 1 (.d (.ptr o.s)) K=K (.d (.ptr (.sl false 4 (dl Cs.s o.cs)))):=fun K=>by simp [Off.s,dQ,dD,D.pre,D.nth,D.size]
 cases hd:decide (20000 - o.day < v) with
 | true =>
  have hM:gZ o 2 id a v=none:=by unfold gZ; rw [if_neg (by decide),if_pos rfl,if_pos (of_decide_eq_true hd)]
  repeat' (first|(simp only [hk1,Off.w,dQ,cY,cZ,hf0,hd,↓dL,cK,dP,↓wA,↓wC,wB,bQ,bR,reduceIte,aA,dF])|(refine dJ ?_)|(with_reducible refine aI ?_ ?_)|(refine cJ hO (by simp [dA,dK]) rfl ?_)|(refine cJ hF (by simp [dA,dK]) rfl ?_)|(with_reducible refine cM ?_ ?_; focus (simp only [dX]; omega))|((first|apply cH|apply cI|apply cG)<;>intro h<;>try simp only [h]))
  all_goals exact aAg o hM rfl
 | false =>
  have hM:gZ o 2 id a v=some { o with cs:=iE ⟨id,a,o.day + v,[]⟩ o.cs }:=by unfold gZ; rw [if_neg (by decide),if_pos rfl,if_neg (of_decide_eq_false hd)]
  have hG:=fS _ (rK ho hM)
  have hd':=of_decide_eq_false hd
  have hE:=aFk o 2 id a v ho0 (by simp only [dX]; omega)
  simp only [jD] at hE
  have hu:(D.st (.cons (.int .i64 o.day) (.cons (.sl true 4 (dl Cs.s (iE ⟨id,a,o.day + v,[]⟩ o.cs))) (.cons (.int .i64 o.kept) (.cons (.int .i64 o.moved) (.cons (.sl true 1 (dl D.str o.led)) .nil)))))).unown=Off.s { o with cs:=iE ⟨id,a,o.day + v,[]⟩ o.cs }:=aYb { o with cs:=iE ⟨id,a,o.day + v,[]⟩ o.cs }
  repeat' (first|(simp only [hk1,Off.w,dQ,cY,cZ,hf0,hd,↓dL,cK,dP,↓wA,↓wC,wB,bQ,bR,reduceIte,aA,dF])|(refine dJ ?_)|(with_reducible refine aI ?_ ?_)|(refine cJ hO (by simp [dA,dK]) rfl ?_)|(refine cJ hF (by simp [dA,dK]) rfl ?_)|(with_reducible refine cM ?_ ?_; focus (simp only [dX]; omega))|(refine cJ hE (by simp [dA,dK]) rfl ?_)|(refine cJ hG (congrArg (fun d:D=>some [d]) hu) rfl ?_)|(refine cL hG (congrArg (fun d:D=>some [d]) hu) rfl ?_)|((first|apply cH|apply cI|apply cG)<;>intro h<;>try simp only [h]))
  all_goals exact rQ hM rfl rfl
theorem aM9 (o:Off) (id a v:Int) (ho:dN o=true) (hs:lX o 4 id a v=true):Fn prog 129 [o.s,jD 4 id a v] (MkR o 4 id a v):=by
 have hk1:decide ((4:Int)=1)=false:=rfl
 have hk2:decide ((4:Int)=2)=false:=rfl
 have hk3:decide ((4:Int)=3)=false:=rfl
 have hk4:decide ((4:Int)=4)=true:=rfl
 have hk5:decide ((4:Int)=5)=false:=rfl
 have hp:=eF ho
 have ho0:=eU ho
 have hO:=jG o ho0
 have hF:=jU o id ho0
 have hE:=aDd o v ho0
 have hd:True:=trivial
 cases hc:vC v o.cs with
 | true =>
  have hM:gZ o 4 id a v=some { o with cs:=o.cs.map (s8 v) }:=by unfold gZ; rw [if_neg (by decide),if_neg (by decide),if_pos rfl,if_pos hc]
  have hG:=fS _ (rK ho hM)
  have hu:(D.st (.cons (.int .i64 o.day) (.cons (.sl true 4 (dl Cs.s (o.cs.map (s8 v)))) (.cons (.int .i64 o.kept) (.cons (.int .i64 o.moved) (.cons (.sl true 1 (dl D.str o.led)) .nil)))))).unown=Off.s { o with cs:=o.cs.map (s8 v) }:=aYb { o with cs:=o.cs.map (s8 v) }
  rw [hc] at hE
  refine cW kL [[1,0],[1,0]] ?_
  dsimp only [kL,aAH,rF,cS,cE,cR,c8]
  try simp only [wQ]
  simp only [jD]
  repeat' (first|(simp only [aXW,aXX,cK,↓wA,↓wC,wB,cU,cT,bQ,bR,bT,reduceIte,reduceCtorEq,aA,bU,dF])|((first|apply cH|apply cI|apply cG)<;>intro h<;>try simp only [h]))
  refine dB (gJ 0 rfl) ?_
  simp only [cU,cT,aX1,↓wA,↓wC,wB,cU,cT,bQ,bR,bT,reduceIte,reduceCtorEq,aA,bU,dF]
  refine dB (gJ 1 rfl) ?_
  simp only [cU,cT,D.unown,↓wA,↓wC,wB,cU,cT,bQ,bR,bT,reduceIte,reduceCtorEq,aA,bU,dF]
  have hf0:∀ K:SV->Prop,dD 0 0 (.d (.ptr o.s)) K=K (.d (.ptr (.int .i64 o.day))):=fun K=>by simp [Off.s,dQ,dD,D.pre,D.nth]
  have hf1:∀ K:SV->Prop,dD 1 1 (.d (.ptr o.s)) K=K (.d (.ptr (.sl false 4 (dl Cs.s o.cs)))):=fun K=>by simp [Off.s,dQ,dD,D.pre,D.nth,D.size]
  repeat' (first|(simp only [hk1,hk2,hk3,Off.w,dQ,cY,cZ,↓dL,cK,dP,↓wA,↓wC,wB,bQ,bR,reduceIte,aA,dF])|(refine dJ ?_)|(with_reducible refine aI ?_ ?_)|(refine cJ hO (by simp [dA,dK]) rfl ?_)|(refine cJ hF (by simp [dA,dK]) rfl ?_)|(with_reducible refine cM ?_ ?_; focus (simp only [dX]; omega))|(refine cJ hE (by simp [dA,dK]) rfl ?_)|(refine cJ hG (congrArg (fun d:D=>some [d]) hu) rfl ?_)|(refine cL hG (congrArg (fun d:D=>some [d]) hu) rfl ?_)|((first|apply cH|apply cI|apply cG)<;>intro h<;>try simp only [h]))
  all_goals exact rQ hM rfl rfl
 | false =>
  have hM:gZ o 4 id a v=none:=by unfold gZ; rw [if_neg (by decide),if_neg (by decide),if_pos rfl,if_neg (by rw [hc]; decide)]
  rw [hc] at hE
  refine cW kL [[1,0],[1,0]] ?_
  dsimp only [kL,aAH,rF,cS,cE,cR,c8]
  try simp only [wQ]
  simp only [jD]
  repeat' (first|(simp only [aXW,aXX,cK,↓wA,↓wC,wB,cU,cT,bQ,bR,bT,reduceIte,reduceCtorEq,aA,bU,dF])|((first|apply cH|apply cI|apply cG)<;>intro h<;>try simp only [h]))
  refine dB (gJ 0 rfl) ?_
  simp only [cU,cT,aX1,↓wA,↓wC,wB,cU,cT,bQ,bR,bT,reduceIte,reduceCtorEq,aA,bU,dF]
  refine dB (gJ 1 rfl) ?_
  simp only [cU,cT,D.unown,↓wA,↓wC,wB,cU,cT,bQ,bR,bT,reduceIte,reduceCtorEq,aA,bU,dF]
  have hf0:∀ K:SV->Prop,dD 0 0 (.d (.ptr o.s)) K=K (.d (.ptr (.int .i64 o.day))):=fun K=>by simp [Off.s,dQ,dD,D.pre,D.nth]
  have hf1:∀ K:SV->Prop,dD 1 1 (.d (.ptr o.s)) K=K (.d (.ptr (.sl false 4 (dl Cs.s o.cs)))):=fun K=>by simp [Off.s,dQ,dD,D.pre,D.nth,D.size]
  repeat' (first|(simp only [hk1,hk2,hk3,Off.w,dQ,cY,cZ,↓dL,cK,dP,↓wA,↓wC,wB,bQ,bR,reduceIte,aA,dF])|(refine dJ ?_)|(with_reducible refine aI ?_ ?_)|(refine cJ hO (by simp [dA,dK]) rfl ?_)|(refine cJ hF (by simp [dA,dK]) rfl ?_)|(with_reducible refine cM ?_ ?_; focus (simp only [dX]; omega))|(refine cJ hE (by simp [dA,dK]) rfl ?_)|((first|apply cH|apply cI|apply cG)<;>intro h<;>try simp only [h]))
  all_goals exact aAg { o with cs:=o.cs.map (s8 v) } hM rfl
theorem zX {o:Off} {id:Int} (h:decide (0<=fN o.cs id)=true):∃ (i:Nat) (x:Cs),fN o.cs id=(i:Int)/\o.cs[i]?=some x:=by
 rcases lM o.cs id with ⟨_,hn⟩|⟨i,x,hi,hr,_⟩
 ·rw [hn] at h; cases h
 ·exact ⟨i,x,hi,hr⟩
theorem aLr (o:Off) (id a v:Int) (ho:dN o=true) (hs:lX o 6 id a v=true):Fn prog 129 [o.s,jD 6 id a v] (MkR o 6 id a v):=by
 have hk1:decide ((6:Int)=1)=false:=rfl
 have hk2:decide ((6:Int)=2)=false:=rfl
 have hk3:decide ((6:Int)=3)=false:=rfl
 have hk4:decide ((6:Int)=4)=false:=rfl
 have hk5:decide ((6:Int)=5)=false:=rfl
 have hp:=eF ho
 have ho0:=eU ho
 have hO:=jG o ho0
 have hF:=jU o id ho0
 have hd:True:=trivial
 obtain ⟨i,x,hi,hr⟩:=zX (o:=o) (id:=id) (by simp [lX] at hs; exact decide_eq_true hs.1.1)
 have hE:=aKK o i x ho hr
 rw [hi] at hF
 have hM0:gZ o 6 id a v=if eA o x=true then some (kM o i x) else none:=by
  unfold gZ
  rw [if_neg (by decide),if_neg (by decide),if_neg (by decide),hi,aB,hr]
  simp
 have hwu:=aYb (kM o i x)
 have hwV:∀ q:Off,q.w.isV=true:=fun _=>rfl
 have hwS:∀ q:Off,q.w.size=5:=fun _=>rfl
 have hwN:=aYg
 have hwB:∀ q:Off,q.w.isStB=true:=fun _=>rfl
 generalize hq:kM o i x=q at hE hM0 hwu
 cases hc:eA o x with
 | true =>
  have hM:gZ o 6 id a v=some q:=by rw [hM0,if_pos hc]
  have hG:=fS _ (rK ho hM)
  rw [hc,Bool.true_and] at hE
  cases hk:dN q with
  | true =>
   rw [hk] at hE hG
   refine cW kL [[1,0],[1,0]] ?_
   dsimp only [kL,aAH,rF,cS,cE,cR,c8]
   try simp only [wQ]
   simp only [jD]
   repeat' (first|(simp only [aXW,aXX,cK,↓wA,↓wC,wB,cU,cT,bQ,bR,bT,reduceIte,reduceCtorEq,aA,bU,dF])|((first|apply cH|apply cI|apply cG)<;>intro h<;>try simp only [h]))
   refine dB (gJ 0 rfl) ?_
   simp only [cU,cT,aX1,↓wA,↓wC,wB,cU,cT,bQ,bR,bT,reduceIte,reduceCtorEq,aA,bU,dF]
   refine dB (gJ 1 rfl) ?_
   simp only [cU,cT,D.unown,↓wA,↓wC,wB,cU,cT,bQ,bR,bT,reduceIte,reduceCtorEq,aA,bU,dF]
   have hf0:∀ K:SV->Prop,dD 0 0 (.d (.ptr o.s)) K=K (.d (.ptr (.int .i64 o.day))):=fun K=>by simp [Off.s,dQ,dD,D.pre,D.nth]
   have hf1:∀ K:SV->Prop,dD 1 1 (.d (.ptr o.s)) K=K (.d (.ptr (.sl false 4 (dl Cs.s o.cs)))):=fun K=>by simp [Off.s,dQ,dD,D.pre,D.nth,D.size]
   repeat' (first|(simp only [hwV,hwS,hwN,hwB,hk1,hk2,hk3,hk4,hk5,↓dL,cK,↓wA,↓wC,wB,bQ,bR,reduceIte,aA,dF])|(refine dJ ?_)|(with_reducible refine aI ?_ ?_)|(refine cJ hO (by simp [dA,dK]) rfl ?_)|(refine cJ hF (by simp [dA,dK]) rfl ?_)|(with_reducible refine cM ?_ ?_; focus (simp only [dX]; omega))|(refine cJ hE (by simp [dA,dK]) rfl ?_)|(refine cJ hG (congrArg (fun d:D=>some [d]) hwu) rfl ?_)|(refine cL hG (congrArg (fun d:D=>some [d]) hwu) rfl ?_)|((first|apply cH|apply cI|apply cG)<;>intro h<;>try simp only [h]))
   all_goals exact eX _ rfl (cO rfl (cO rfl (cO rfl (rQ hM rfl hk.symm))))
  | false =>
   rw [hk] at hE hG
   refine cW kL [[1,0],[1,0]] ?_
   dsimp only [kL,aAH,rF,cS,cE,cR,c8]
   try simp only [wQ]
   simp only [jD]
   repeat' (first|(simp only [aXW,aXX,cK,↓wA,↓wC,wB,cU,cT,bQ,bR,bT,reduceIte,reduceCtorEq,aA,bU,dF])|((first|apply cH|apply cI|apply cG)<;>intro h<;>try simp only [h]))
   refine dB (gJ 0 rfl) ?_
   simp only [cU,cT,aX1,↓wA,↓wC,wB,cU,cT,bQ,bR,bT,reduceIte,reduceCtorEq,aA,bU,dF]
   refine dB (gJ 1 rfl) ?_
   simp only [cU,cT,D.unown,↓wA,↓wC,wB,cU,cT,bQ,bR,bT,reduceIte,reduceCtorEq,aA,bU,dF]
   have hf0:∀ K:SV->Prop,dD 0 0 (.d (.ptr o.s)) K=K (.d (.ptr (.int .i64 o.day))):=fun K=>by simp [Off.s,dQ,dD,D.pre,D.nth]
   have hf1:∀ K:SV->Prop,dD 1 1 (.d (.ptr o.s)) K=K (.d (.ptr (.sl false 4 (dl Cs.s o.cs)))):=fun K=>by simp [Off.s,dQ,dD,D.pre,D.nth,D.size]
   repeat' (first|(simp only [hwV,hwS,hwN,hwB,hk1,hk2,hk3,hk4,hk5,↓dL,cK,↓wA,↓wC,wB,bQ,bR,reduceIte,aA,dF])|(refine dJ ?_)|(with_reducible refine aI ?_ ?_)|(refine cJ hO (by simp [dA,dK]) rfl ?_)|(refine cJ hF (by simp [dA,dK]) rfl ?_)|(with_reducible refine cM ?_ ?_; focus (simp only [dX]; omega))|(refine cJ hE (by simp [dA,dK]) rfl ?_)|((first|apply cH|apply cI|apply cG)<;>intro h<;>try simp only [h]))
   all_goals exact eX _ rfl (cO rfl (cO rfl (cO rfl (rQ hM rfl hk.symm))))
 | false =>
  have hM:gZ o 6 id a v=none:=by rw [hM0,if_neg (by rw [hc]; decide)]
  rw [hc,Bool.false_and] at hE
  refine cW kL [[1,0],[1,0]] ?_
  dsimp only [kL,aAH,rF,cS,cE,cR,c8]
  try simp only [wQ]
  simp only [jD]
  repeat' (first|(simp only [aXW,aXX,cK,↓wA,↓wC,wB,cU,cT,bQ,bR,bT,reduceIte,reduceCtorEq,aA,bU,dF])|((first|apply cH|apply cI|apply cG)<;>intro h<;>try simp only [h]))
  refine dB (gJ 0 rfl) ?_
  simp only [cU,cT,aX1,↓wA,↓wC,wB,cU,cT,bQ,bR,bT,reduceIte,reduceCtorEq,aA,bU,dF]
  refine dB (gJ 1 rfl) ?_
  simp only [cU,cT,D.unown,↓wA,↓wC,wB,cU,cT,bQ,bR,bT,reduceIte,reduceCtorEq,aA,bU,dF]
  have hf0:∀ K:SV->Prop,dD 0 0 (.d (.ptr o.s)) K=K (.d (.ptr (.int .i64 o.day))):=fun K=>by simp [Off.s,dQ,dD,D.pre,D.nth]
  have hf1:∀ K:SV->Prop,dD 1 1 (.d (.ptr o.s)) K=K (.d (.ptr (.sl false 4 (dl Cs.s o.cs)))):=fun K=>by simp [Off.s,dQ,dD,D.pre,D.nth,D.size]
  repeat' (first|(simp only [hwV,hwS,hwN,hwB,hk1,hk2,hk3,hk4,hk5,↓dL,cK,↓wA,↓wC,wB,bQ,bR,reduceIte,aA,dF])|(refine dJ ?_)|(with_reducible refine aI ?_ ?_)|(refine cJ hO (by simp [dA,dK]) rfl ?_)|(refine cJ hF (by simp [dA,dK]) rfl ?_)|(with_reducible refine cM ?_ ?_; focus (simp only [dX]; omega))|(refine cJ hE (by simp [dA,dK]) rfl ?_)|((first|apply cH|apply cI|apply cG)<;>intro h<;>try simp only [h]))
  all_goals exact eX _ rfl (cO rfl (cO rfl (cO rfl (aAg q hM rfl))))
theorem aNw (o:Off) (id a v:Int) (ho:dN o=true) (hs:lX o 3 id a v=true):Fn prog 129 [o.s,jD 3 id a v] (MkR o 3 id a v):=by
 have hk1:decide ((3:Int)=1)=false:=rfl
 have hk2:decide ((3:Int)=2)=false:=rfl
 have hk3:decide ((3:Int)=3)=true:=rfl
 have hk4:decide ((3:Int)=4)=false:=rfl
 have hk5:decide ((3:Int)=5)=false:=rfl
 have hp:=eF ho
 have ho0:=eU ho
 have hO:=jG o ho0
 have hF:=jU o id ho0
 have hd:True:=trivial
 obtain ⟨i,x,hi,hr⟩:=zX (o:=o) (id:=id) (by simp [lX] at hs; exact decide_eq_true hs.1.1)
 have hxc:=e8 (hp.2.2.2.2.2.2.2.2.2 x (aD hr))
 have hH:=aGp x.h v (by omega)
 have hi0:(0:Int)<=(i:Int):=by omega
 rw [hi] at hF
 have hM0:gZ o 3 id a v=if x.h.contains v=true then none else some { o with cs:=o.cs.set i { x with h:=j6 v x.h } }:=by
  unfold gZ
  rw [if_neg (by decide),if_neg (by decide),if_neg (by decide),hi,aB,hr]
  simp
 have hgn:(dl Cs.s o.cs).nth i=some (x.p (.sl false 1 (dl iD x.h))):=by rw [dC,hr]; rfl
 have hgs:∀ (y:D),((dl Cs.s o.cs).setN i y).nth i=some y:=fun y=>by rw [oZ,if_pos rfl,hgn]; rfl
 have hfx:∀ K:SV->Prop,dD 3 3 (.d (.ptr x.s)) K=K (.d (.ptr (.sl false 1 (dl iD x.h)))):=fun K=>aHD
 cases hc:x.h.contains v with
 | true =>
  rw [hc] at hH
  have hM:gZ o 3 id a v=none:=by rw [hM0,if_pos hc]
  refine cW kL [[1,0],[1,0]] ?_
  dsimp only [kL,aAH,rF,cS,cE,cR,c8]
  try simp only [wQ]
  simp only [jD]
  repeat' (first|(simp only [aXW,aXX,cK,↓wA,↓wC,wB,cU,cT,bQ,bR,bT,reduceIte,reduceCtorEq,aA,bU,dF])|((first|apply cH|apply cI|apply cG)<;>intro h<;>try simp only [h]))
  refine dB (gJ 0 rfl) ?_
  simp only [cU,cT,aX1,↓wA,↓wC,wB,cU,cT,bQ,bR,bT,reduceIte,reduceCtorEq,aA,bU,dF]
  refine dB (gJ 1 rfl) ?_
  simp only [cU,cT,D.unown,↓wA,↓wC,wB,cU,cT,bQ,bR,bT,reduceIte,reduceCtorEq,aA,bU,dF]
  have hf0:∀ K:SV->Prop,dD 0 0 (.d (.ptr o.s)) K=K (.d (.ptr (.int .i64 o.day))):=fun K=>by simp [Off.s,dQ,dD,D.pre,D.nth]
  have hf1:∀ K:SV->Prop,dD 1 1 (.d (.ptr o.s)) K=K (.d (.ptr (.sl false 4 (dl Cs.s o.cs)))):=fun K=>by simp [Off.s,dQ,dD,D.pre,D.nth,D.size]
  repeat' (first|(simp only [hk1,hk2,Off.w,dQ,cY,cZ,hf1,↓dL,cK,dP,aB,aE,dC,hi0,hr,hfx,dE,↓wA,↓wC,wB,bQ,bR,reduceIte,aA,dF])|(refine dJ ?_)|(with_reducible refine aI ?_ ?_)|(refine cJ hO (by simp [dA,dK]) rfl ?_)|(refine cJ hF (by simp [dA,dK]) rfl ?_)|(with_reducible refine cM ?_ ?_; focus (simp only [dX]; omega))|(refine cJ (hH) rfl rfl ?_)|(refine cL (hH) rfl rfl ?_)|((first|apply cH|apply cI|apply cG)<;>intro h<;>try simp only [h]))
  all_goals exact aAg o hM rfl
 | false =>
  rw [hc] at hH
  have hM:gZ o 3 id a v=some { o with cs:=o.cs.set i { x with h:=j6 v x.h } }:=by rw [hM0,if_neg (by rw [hc]; decide)]
  have hG:=fS _ (rK ho hM)
  have hnv:v ∉ x.h:=fun h=>by rw [List.contains_iff_mem.2 h] at hc; cases hc
  have hP:Fn prog 169 [.sl false 1 (dl iD x.h),.int .i64 v] (fun rs=>rs=[.sl false 1 (dl iD (j6 v x.h))]):=by
   simpa [D.unown,dS] using fH (aMU x.h v (by omega) hnv)
  have hset:(dl Cs.s o.cs).setN i (x.p (.sl false 1 (dl iD (j6 v x.h))))=dl Cs.s (o.cs.set i { x with h:=j6 v x.h }):=by
   have e:x.p (.sl false 1 (dl iD (j6 v x.h)))=Cs.s { x with h:=j6 v x.h }:=rfl
   rw [e,kH]
  have hu:(D.st (.cons (.int .i64 o.day) (.cons (.sl true 4 (dl Cs.s (o.cs.set i { x with h:=j6 v x.h }))) (.cons (.int .i64 o.kept) (.cons (.int .i64 o.moved) (.cons (.sl true 1 (dl D.str o.led)) .nil)))))).unown=Off.s { o with cs:=o.cs.set i { x with h:=j6 v x.h } }:=aYb { o with cs:=o.cs.set i { x with h:=j6 v x.h } }
  refine cW kL [[1,1,1,0,1,0,1,1,1,1,1,0,1],[1,1,1,1,0],[1,0],[1,0]] ?_
  dsimp only [kL,aAH,rF,cS,cE,cR,c8]
  try simp only [wQ]
  simp only [jD]
  repeat' (first|(simp only [aXW,aXX,cK,↓wA,↓wC,wB,cU,cT,bQ,bR,bT,reduceIte,reduceCtorEq,aA,bU,dF])|((first|apply cH|apply cI|apply cG)<;>intro h<;>try simp only [h]))
  refine dB (gJ 0 rfl) ?_
  simp only [cU,cT,aX1,↓wA,↓wC,wB,cU,cT,bQ,bR,bT,reduceIte,reduceCtorEq,aA,bU,dF]
  refine dB (gJ 1 rfl) ?_
  simp only [cU,cT,D.unown,↓wA,↓wC,wB,cU,cT,bQ,bR,bT,reduceIte,reduceCtorEq,aA,bU,dF]
  have hf0:∀ K:SV->Prop,dD 0 0 (.d (.ptr o.s)) K=K (.d (.ptr (.int .i64 o.day))):=fun K=>by simp [Off.s,dQ,dD,D.pre,D.nth]
  have hf1:∀ K:SV->Prop,dD 1 1 (.d (.ptr o.s)) K=K (.d (.ptr (.sl false 4 (dl Cs.s o.cs)))):=fun K=>by simp [Off.s,dQ,dD,D.pre,D.nth,D.size]
  repeat' (first|(simp only [hk1,hk2,hk3,hk4,hk5,aXW,aXX,aX2,Off.w,dQ,cY,cZ,hf0,hf1,hd,↓dL,cK,dP,aB,aE,cP,dC,hi0,hr,hfx,dE,↓wA,↓wC,wB,cU,cT,bQ,bR,bT,reduceIte,reduceCtorEq,aA,bU,dF])|(refine dJ ?_)|(with_reducible refine aI ?_ ?_)|(refine cJ hO (by simp [dA,dK]) rfl ?_)|(refine cJ hF (by simp [dA,dK]) rfl ?_)|(with_reducible refine cM ?_ ?_; focus (simp only [dX]; omega))|(refine cJ (hH) rfl rfl ?_)|(refine cL (hH) rfl rfl ?_)|((first|apply cH|apply cI|apply cG)<;>intro h<;>try simp only [h]))
  refine eY _ (fL 4 none [1] (es:=4) (xs:=dl Cs.s o.cs) rfl rfl) fun v1=>?_
  simp only [eD,↓wA,↓wC,wB,cU,cT,bQ,bR,bT,reduceIte,reduceCtorEq,aA,bU,dF]
  repeat' (first|(simp only [hk1,hk2,hk3,hk4,hk5,aXW,aXX,aX2,Off.w,dQ,cY,cZ,hf0,hf1,hd,↓dL,cK,dP,aB,aE,cP,hi0,hgn,hgs,dE,jL,fY,iB,hset,↓wA,↓wC,wB,cU,cT,bQ,bR,bT,reduceIte,reduceCtorEq,aA,bU,dF])|(refine dJ ?_)|(with_reducible refine aI ?_ ?_)|(refine cJ hO (by simp [dA,dK,aX1]) rfl ?_)|(refine cJ hF (by simp [dA,dK,aX1]) rfl ?_)|(with_reducible refine cM ?_ ?_; focus (simp only [dX]; omega))|(refine cJ (hP) rfl rfl ?_)|(refine cL (hP) rfl rfl ?_)|((first|apply cH|apply cI|apply cG)<;>intro h<;>try simp only [h]))
  refine dB (iU 4 6 5 none [1] rfl rfl rfl rfl (by decide) rfl) ?_
  simp only [eD,↓wA,↓wC,wB,cU,cT,bQ,bR,bT,reduceIte,reduceCtorEq,aA,bU,dF]
  repeat' (first|(simp only [cY,cZ,cK,dP,↓wA,↓wC,wB,bQ,bR,reduceIte,aA,dF])|(refine dJ ?_)|(with_reducible refine aI ?_ ?_)|(refine cJ hO (by simp [dA,dK,aX1]) rfl ?_)|(refine cJ hF (by simp [dA,dK,aX1]) rfl ?_)|(with_reducible refine cM ?_ ?_; focus (simp only [dX]; omega))|(refine cJ hG (congrArg (fun d:D=>some [d]) hu) rfl ?_)|(refine cL hG (congrArg (fun d:D=>some [d]) hu) rfl ?_)|((first|apply cH|apply cI|apply cG)<;>intro h<;>try simp only [h]))
  all_goals exact rQ hM rfl rfl
theorem aNg (o:Off) (id a v:Int) (ho:dN o=true) (hs:lX o 5 id a v=true):Fn prog 129 [o.s,jD 5 id a v] (MkR o 5 id a v):=by
 have hk1:decide ((5:Int)=1)=false:=rfl
 have hk2:decide ((5:Int)=2)=false:=rfl
 have hk3:decide ((5:Int)=3)=false:=rfl
 have hk4:decide ((5:Int)=4)=false:=rfl
 have hk5:decide ((5:Int)=5)=true:=rfl
 have hp:=eF ho
 have ho0:=eU ho
 have hO:=jG o ho0
 have hF:=jU o id ho0
 have hv:1<=v:=by simp [lX] at hs; exact hs.2
 obtain ⟨i,x,hi,hr⟩:=zX (o:=o) (id:=id) (by simp [lX] at hs; exact decide_eq_true hs.1.1)
 have hxc:=e8 (hp.2.2.2.2.2.2.2.2.2 x (aD hr))
 have hi0:(0:Int)<=(i:Int):=by omega
 rw [hi] at hF
 have hM0:gZ o 5 id a v=if v > 20000 - x.d then none else some { o with cs:=o.cs.set i { x with d:=x.d + v } }:=by
  unfold gZ
  rw [if_neg (by decide),if_neg (by decide),if_neg (by decide),hi,aB,hr]
  simp
 have hgn:(dl Cs.s o.cs).nth i=some (x.p (.sl false 1 (dl iD x.h))):=by rw [dC,hr]; rfl
 have hgs:∀ (y:D),((dl Cs.s o.cs).setN i y).nth i=some y:=fun y=>by rw [oZ,if_pos rfl,hgn]; rfl
 have hfx:∀ K:SV->Prop,dD 2 2 (.d (.ptr x.s)) K=K (.d (.ptr (.int .i64 x.d))):=fun K=>aE2
 have hfx':∀ K:SV->Prop,dD 2 2 (.d (.ptr (x.p (.sl false 1 (dl iD x.h))))) K=K (.d (.ptr (.int .i64 x.d))):=fun K=>aE2
 cases hd:decide (20000 - x.d < v) with
 | true =>
  have hM:gZ o 5 id a v=none:=by rw [hM0,if_pos (of_decide_eq_true hd)]
  refine cW kL [[1,0],[1,0]] ?_
  dsimp only [kL,aAH,rF,cS,cE,cR,c8]
  try simp only [wQ]
  simp only [jD]
  repeat' (first|(simp only [aXW,aXX,cK,↓wA,↓wC,wB,cU,cT,bQ,bR,bT,reduceIte,reduceCtorEq,aA,bU,dF])|((first|apply cH|apply cI|apply cG)<;>intro h<;>try simp only [h]))
  refine dB (gJ 0 rfl) ?_
  simp only [cU,cT,aX1,↓wA,↓wC,wB,cU,cT,bQ,bR,bT,reduceIte,reduceCtorEq,aA,bU,dF]
  refine dB (gJ 1 rfl) ?_
  simp only [cU,cT,D.unown,↓wA,↓wC,wB,cU,cT,bQ,bR,bT,reduceIte,reduceCtorEq,aA,bU,dF]
  have hf0:∀ K:SV->Prop,dD 0 0 (.d (.ptr o.s)) K=K (.d (.ptr (.int .i64 o.day))):=fun K=>by simp [Off.s,dQ,dD,D.pre,D.nth]
  have hf1:∀ K:SV->Prop,dD 1 1 (.d (.ptr o.s)) K=K (.d (.ptr (.sl false 4 (dl Cs.s o.cs)))):=fun K=>by simp [Off.s,dQ,dD,D.pre,D.nth,D.size]
  repeat' (first|(simp only [hk1,hk2,hk3,hk4,Off.w,dQ,cY,cZ,hf1,hd,↓dL,cK,dP,aB,aE,dC,hi0,hr,hfx,↓wA,↓wC,wB,bQ,bR,reduceIte,aA,dF])|(refine dJ ?_)|(with_reducible refine aI ?_ ?_)|(refine cJ hO (by simp [dA,dK]) rfl ?_)|(refine cJ hF (by simp [dA,dK]) rfl ?_)|(with_reducible refine cM ?_ ?_; focus (simp only [dX]; omega))|((first|apply cH|apply cI|apply cG)<;>intro h<;>try simp only [h]))
  all_goals exact aAg o hM rfl
 | false =>
  have hd':=of_decide_eq_false hd
  have hM:gZ o 5 id a v=some { o with cs:=o.cs.set i { x with d:=x.d + v } }:=by rw [hM0,if_neg (of_decide_eq_false hd)]
  have hG:=fS _ (rK ho hM)
  have hset:(dl Cs.s o.cs).setN i (Cs.p { x with d:=x.d + v } (.sl false 1 (dl iD x.h)))=dl Cs.s (o.cs.set i { x with d:=x.d + v }):=by
   have e:Cs.p { x with d:=x.d + v } (.sl false 1 (dl iD x.h))=Cs.s { x with d:=x.d + v }:=rfl
   rw [e,kH]
  have hu:(D.st (.cons (.int .i64 o.day) (.cons (.sl true 4 (dl Cs.s (o.cs.set i { x with d:=x.d + v }))) (.cons (.int .i64 o.kept) (.cons (.int .i64 o.moved) (.cons (.sl true 1 (dl D.str o.led)) .nil)))))).unown=Off.s { o with cs:=o.cs.set i { x with d:=x.d + v } }:=aYb { o with cs:=o.cs.set i { x with d:=x.d + v } }
  refine cW kL [[1,1,1,0,1,0,1,1,1,1,1,1,1,1,1,0,1],[1,1,1,1,0],[1,0],[1,0]] ?_
  dsimp only [kL,aAH,rF,cS,cE,cR,c8]
  try simp only [wQ]
  simp only [jD]
  repeat' (first|(simp only [aXW,aXX,cK,↓wA,↓wC,wB,cU,cT,bQ,bR,bT,reduceIte,reduceCtorEq,aA,bU,dF])|((first|apply cH|apply cI|apply cG)<;>intro h<;>try simp only [h]))
  refine dB (gJ 0 rfl) ?_
  simp only [cU,cT,aX1,↓wA,↓wC,wB,cU,cT,bQ,bR,bT,reduceIte,reduceCtorEq,aA,bU,dF]
  refine dB (gJ 1 rfl) ?_
  simp only [cU,cT,D.unown,↓wA,↓wC,wB,cU,cT,bQ,bR,bT,reduceIte,reduceCtorEq,aA,bU,dF]
  have hf0:∀ K:SV->Prop,dD 0 0 (.d (.ptr o.s)) K=K (.d (.ptr (.int .i64 o.day))):=fun K=>by simp [Off.s,dQ,dD,D.pre,D.nth]
  have hf1:∀ K:SV->Prop,dD 1 1 (.d (.ptr o.s)) K=K (.d (.ptr (.sl false 4 (dl Cs.s o.cs)))):=fun K=>by simp [Off.s,dQ,dD,D.pre,D.nth,D.size]
  repeat' (first|(simp only [hk1,hk2,hk3,hk4,hk5,aXW,aXX,aX2,Off.w,dQ,cY,cZ,hf0,hf1,hd,↓dL,cK,dP,aB,aE,cP,dC,hi0,hr,hfx,dE,↓wA,↓wC,wB,cU,cT,bQ,bR,bT,reduceIte,reduceCtorEq,aA,bU,dF])|(refine dJ ?_)|(with_reducible refine aI ?_ ?_)|(refine cJ hO (by simp [dA,dK]) rfl ?_)|(refine cJ hF (by simp [dA,dK]) rfl ?_)|(with_reducible refine cM ?_ ?_; focus (simp only [dX]; omega))|((first|apply cH|apply cI|apply cG)<;>intro h<;>try simp only [h]))
  refine eY _ (fL 4 none [1] (es:=4) (xs:=dl Cs.s o.cs) rfl rfl) fun v1=>?_
  simp only [eD,↓wA,↓wC,wB,cU,cT,bQ,bR,bT,reduceIte,reduceCtorEq,aA,bU,dF]
  repeat' (first|(simp only [hk1,hk2,hk3,hk4,hk5,aXW,aXX,aX2,Off.w,dQ,cY,cZ,hf0,hf1,hd,↓dL,cK,dP,aB,aE,cP,hi0,hr,hfx,hfx',hgn,hgs,dE,aBe,aAY,aBc,hset,↓wA,↓wC,wB,cU,cT,bQ,bR,bT,reduceIte,reduceCtorEq,aA,bU,dF])|(refine dJ ?_)|(with_reducible refine aI ?_ ?_)|(refine cJ hO (by simp [dA,dK,aX1]) rfl ?_)|(refine cJ hF (by simp [dA,dK,aX1]) rfl ?_)|(with_reducible refine cM ?_ ?_; focus (simp only [dX]; omega))|((first|apply cH|apply cI|apply cG)<;>intro h<;>try simp only [h]))
  refine dB (iU 4 6 5 none [1] rfl rfl rfl rfl (by decide) rfl) ?_
  simp only [eD,↓wA,↓wC,wB,cU,cT,bQ,bR,bT,reduceIte,reduceCtorEq,aA,bU,dF]
  repeat' (first|(simp only [cY,cZ,cK,dP,↓wA,↓wC,wB,bQ,bR,reduceIte,aA,dF])|(refine dJ ?_)|(with_reducible refine aI ?_ ?_)|(refine cJ hO (by simp [dA,dK,aX1]) rfl ?_)|(refine cJ hF (by simp [dA,dK,aX1]) rfl ?_)|(with_reducible refine cM ?_ ?_; focus (simp only [dX]; omega))|(refine cJ hG (congrArg (fun d:D=>some [d]) hu) rfl ?_)|(refine cL hG (congrArg (fun d:D=>some [d]) hu) rfl ?_)|((first|apply cH|apply cI|apply cG)<;>intro h<;>try simp only [h]))
  all_goals exact rQ hM rfl rfl
theorem aIs (o:Off) (k id a v:Int) (ho:dN o=true) (hs:lX o k id a v=true):Fn prog 129 [o.s,jD k id a v] (MkR o k id a v):=by
 by_cases h1:k=1
 ·subst h1; exact aNf o id a v ho hs
 by_cases h2:k=2
 ·subst h2; exact aL2 o id a v ho hs
 by_cases h3:k=3
 ·subst h3; exact aNw o id a v ho hs
 by_cases h4:k=4
 ·subst h4; exact aM9 o id a v ho hs
 by_cases h5:k=5
 ·subst h5; exact aNg o id a v ho hs
 have h6:k=6:=by
  unfold lX at hs
  rw [if_neg h1,if_neg h2,if_neg h3,if_neg h4,if_neg h5] at hs
  simp only [aF,decide_eq_true_eq] at hs
  exact hs.1.1.1
 subst h6; exact aLr o id a v ho hs
def t6 (o:Off) (k id a v:Int):Off:=(gO o k id a v).getD aC6
def uB (o:Off) (k id a v:Int):Bool:=(gO o k id a v).isSome
theorem aEP (o:Off) (k id a v:Int) (ho:o.ok0):Fn prog 96 [o.s,jD k id a v] (fun rs=>rs=[(t6 o k id a v).w,.bool (uB o k id a v)]):=by
 have hG:=fS o ho
 have hS:=aH4 o k id a v ho
 have hE:=aNc o k id a v
 cases hv:dN o with
 | false =>
  have hR:gO o k id a v=none:=by rw [<- hE]; unfold aGs; rw [hv]; rfl
  rw [hv] at hG
  have hX:t6 o k id a v=aC6:=by unfold t6; rw [hR]; rfl
  have hY:uB o k id a v=false:=by unfold uB; rw [hR]; rfl
  rw [hX,hY]
  refine cW aJU [] ?_
  dsimp only [aJU,m96,rF,cS,cE,cR,c8]
  try simp only [wQ]
  simp only [jD]
  repeat' (first|(simp only [aXW,aXX,↓dL,cK,↓wA,↓wC,wB,bQ,bR,reduceIte,reduceCtorEq,aA,dF])|(refine cJ hG (by simp [dA,dK]) rfl ?_)|((first|apply cH|apply cI|apply cG)<;>intro h<;>try simp only [h]))
  all_goals rfl
 | true =>
  rw [hv] at hG
  cases hb:lX o k id a v with
  | false =>
   have hR:gO o k id a v=none:=by rw [<- hE]; unfold aGs; rw [hv,hb]; rfl
   rw [hb] at hS
   have hX:t6 o k id a v=aC6:=by unfold t6; rw [hR]; rfl
   have hY:uB o k id a v=false:=by unfold uB; rw [hR]; rfl
   rw [hX,hY]
   refine cW aJU [] ?_
   dsimp only [aJU,m96,rF,cS,cE,cR,c8]
   try simp only [wQ]
   simp only [jD] at hS ⊢
   repeat' (first|(simp only [aXW,aXX,↓dL,cK,↓wA,↓wC,wB,bQ,bR,reduceIte,reduceCtorEq,aA,dF])|(refine cJ hG (by simp [dA,dK]) rfl ?_)|(refine cJ hS (by simp [dA,dK]) rfl ?_)|((first|apply cH|apply cI|apply cG)<;>intro h<;>try simp only [h]))
   all_goals rfl
  | true =>
   have hR:gO o k id a v=vE o k id a v:=by rw [<- hE]; unfold aGs; rw [hv,hb]; rfl
   rw [hb] at hS
   have hM:=aIs o k id a v hv hb
   refine cW aJU [] ?_
   dsimp only [aJU,m96,rF,cS,cE,cR,c8]
   try simp only [wQ]
   simp only [jD] at hS hM ⊢
   repeat' (first|(simp only [aXW,aXX,aX2,↓dL,cK,↓wA,↓wC,wB,cU,cT,bQ,bR,bT,reduceIte,reduceCtorEq,aA,bU,dF])|(refine cJ hG (by simp [dA,dK]) rfl ?_)|(refine cJ hS (by simp [dA,dK]) rfl ?_)|((first|apply cH|apply cI|apply cG)<;>intro h<;>try simp only [h]))
   refine aCd hM (by simp [dA,dK]) fun rs h=>?_
   obtain ⟨q,rfl,hq⟩:=h
   have hwV:q.w.isV=true:=rfl
   have hwS:q.w.size=5:=rfl
   refine ⟨.inl rfl,?_⟩
   unfold t6 uB
   rw [hR]
   cases hm:vE o k id a v with
   | none =>
    repeat' (first|(simp only [aYg,hwV,hwS,cK,Option.isSome_none,↓wA,↓wC,wB,bQ,bR,reduceIte,aA,dF])|((first|apply cH|apply cI|apply cG)<;>intro h<;>try simp only [h]))
    all_goals rfl
   | some q' =>
    obtain rfl:=hq q' hm
    repeat' (first|(simp only [aYg,hwV,hwS,cK,Option.isSome_some,↓wA,↓wC,wB,bQ,bR,reduceIte,aA,dF])|((first|apply cH|apply cI|apply cG)<;>intro h<;>try simp only [h]))
    all_goals exact cO rfl (eX _ rfl (cO rfl (cO rfl (cO rfl rfl))))
theorem aE9 (o:Off) (k id a v:Int) (ho:o.ok0):Fn prog 96 [o.s,jD k id a v] (fun rs=>rs=[(t6 o k id a v).s,.bool (uB o k id a v)]):=by
 simpa [D.unown,aYb] using fH (aEP o k id a v ho)
def zS:D:=jD 0 0 0 0
def os:Option Stp->D
 | some x=>x.d
 | none=>zS
end Go.Pe.Tryz
namespace Go.Pe.Tryz
def lF (b:UInt8):Bool:=decide (48<=b.toNat) && decide (b.toNat<=57)
def s9 (s:List UInt8):Int:=s.foldl (fun n b=>10 * n + ((b.toNat:Int) - 48)) 0
theorem uR (s:List UInt8) (b:UInt8):s9 (s ++ [b])=10 * s9 s + ((b.toNat:Int) - 48):=by
 unfold s9
 rw [List.foldl_append]; rfl
theorem aB1:∀ u:Nat,s9 (Lib.decDigits u)=(u:Int):=by
 intro u
 induction u using Nat.strongRecOn with
 | _ u ih =>
  have one:∀ d:Nat,d < 10->(UInt8.ofNat (48 + d)).toNat=48 + d:=fun d hd=>by
   rw [UInt8.toNat_ofNat']; omega
  rw [Lib.decDigits]
  by_cases h:u < 10
  ·rw [dif_pos h]
   have:=uR [] (UInt8.ofNat (48 + u))
   rw [bD] at this
   rw [this,one u h]
   show 10 * (0:Int) + _=_
   omega
  ·rw [dif_neg h,uR,ih (u / 10) (by omega),one (u % 10) (by omega)]
   omega
theorem xC:∀ (k u:Nat),u < 10 ^ (k + 1)->(Lib.decDigits u).length<=k + 1
 | 0,u,h=>by
  rw [Lib.decDigits,dif_pos (by simpa using h)]; simp
 | k + 1,u,h=>by
  rw [Lib.decDigits]
  by_cases jT:u < 10
  ·rw [dif_pos jT]; simp
  ·rw [dif_neg jT]
   have:=xC k (u / 10) (by rw [Nat.pow_succ] at h; omega)
   simp only [aV,List.length_singleton]; omega
theorem aEw (u:Nat):(Lib.decDigits u).all lF=true:=by
 rw [aK]
 intro b hb
 have:=kW u b hb
 simp only [lF,aF,decide_eq_true_eq]
 exact this
theorem xD (u:Nat):Lib.itoa (u:Int)=Lib.decDigits u:=by
 unfold Lib.itoa
 rw [if_neg (by omega)]; simp
theorem yP (u:Nat) (h:0 < u):Lib.itoa (-(u:Int))=45 :: Lib.decDigits u:=by
 unfold Lib.itoa
 rw [if_pos (by omega)]; simp
theorem aI4:∀ (n:Nat) (s:List UInt8),s.length=n->s.all lF=true->0<=s9 s/\s9 s < 10 ^ n:=by
 intro n
 induction n with
 | zero =>
  intro s hs _
  obtain rfl:=List.eq_nil_of_length_eq_zero hs
  exact ⟨Int.le_refl _,by decide⟩
 | succ n ih =>
  intro s hs ha
  rcases List.eq_nil_or_concat s with rfl|⟨u,b,rfl⟩
  ·simp at hs
  ·rw [List.concat_eq_append] at *
   rw [List.all_append,aF] at ha
   have hb:lF b=true:=by simpa using ha.2
   simp only [lF,aF,decide_eq_true_eq] at hb
   have h:=ih u (by simpa using hs) ha.1
   rw [uR,Int.pow_succ]
   omega
theorem aDu (x:UInt8) (a t:List UInt8) (h:x ∉ a):∀ j,j<=t.length->yZ x (a ++ x :: t) (a.length + 1 + j)=(a :: (yZ x t j).1,a.length + 1 + (yZ x t j).2)
 | 0,_=>by
  have hi:=yT x (a ++ x :: t) a.length (by simp)
  rcases hi with ⟨h1,h2,_⟩|⟨h1,_⟩
  ·have hx:(a ++ x :: t)[a.length]?=some x:=by simp
   rw [bL,zL hx,if_pos rfl,h1,h2]
   simp [yZ]
  ·exfalso
   -- nothing is done cX the first byte x
   have hz:∀ k,k<=a.length->(yZ x (a ++ x :: t) k).1=[]:=by
    intro k
    induction k with
    | zero=>intro _; rfl
    | succ k ih =>
     intro hk
     have hk':k < a.length:=hk
     have hc:(a ++ x :: t)[k]?=some a[k]:=by rw [List.getElem?_append_left hk',List.getElem?_eq_getElem hk']
     rw [zL hc,if_neg (fun e:a[k]=x=>h (e ▸ List.getElem_mem hk')),ih (by omega)]
   rw [hz a.length (aG _)] at h1
   simp at h1
 | j + 1,hj=>by
  have ih:=aDu x a t h j (by omega)
  have hjl:j < t.length:=hj
  have hc:(a ++ x :: t)[a.length + 1 + j]?=some t[j]:=by
   rw [List.getElem?_append_right (by omega),show a.length + 1 + j - a.length=j + 1 by omega]
   simp [List.getElem?_eq_getElem hjl]
  have hc':t[j]?=some t[j]:=List.getElem?_eq_getElem hjl
  rw [show a.length + 1 + (j + 1)=(a.length + 1 + j) + 1 by omega,zL hc,zL hc',ih]
  have e1:(a ++ x :: t).take (a.length + 1 + j)=a ++ x :: t.take j:=by
   rw [List.take_append,aN (by omega),show a.length + 1 + j - a.length=j + 1 by omega,List.take_succ_cons]
  have e2:∀ p,(a ++ x :: t.take j).drop (a.length + 1 + p)=(t.take j).drop p:=fun p=>by
   rw [bJ,<-bF,bE rfl,bM 1 p,aU]
  split
  ·simp only [e1,e2,aQ]
   rfl
  ·rfl
theorem w6 {x:UInt8} {a t:List UInt8} (h:x ∉ a):parts x (a ++ x :: t)=a :: parts x t:=by
 unfold parts
 have e:=aDu x a t h t.length (aG _)
 have hl:(a ++ x :: t).length=a.length + 1 + t.length:=by simp; omega
 rw [hl,e]
 have e2:∀ p,(a ++ x :: t).drop (a.length + 1 + p)=t.drop p:=fun p=>by
  rw [bJ,<-bF,bE rfl,bM 1 p,aU]
 simp only [e2,aQ]
theorem aCP {x:UInt8} {s:List UInt8} (h:x ∉ s):parts x s=[s]:=by
 unfold parts
 rcases yT x s s.length (aG _) with ⟨h1,h2,_⟩|⟨_,h2⟩
 ·rw [h1,h2]; rfl
 ·exact absurd h2 h
def rdS (s:List UInt8):Bool:=decide (1 < s.length) && (s.head? == some 45)
def kJ (s:List UInt8):List UInt8:=if rdS s=true then s.drop 1 else s
def rdV (s:List UInt8):Int:=if rdS s=true then -(s9 (kJ s)) else s9 (kJ s)
def jN (s:List UInt8):Option Int:=if 1<=(kJ s).length/\(kJ s).length<=6/\(kJ s).all lF=true/\Lib.itoa (rdV s)=s then some (rdV s) else none
theorem aE4 {s:List UInt8} (h1:(kJ s).length<=6) (h2:(kJ s).all lF=true):-999999<=rdV s/\rdV s<=999999:=by
 have hb:=aI4 (kJ s).length (kJ s) rfl h2
 have:(10:Int) ^ (kJ s).length<=10 ^ 6:=by
  have h7:(10:Nat) ^ (kJ s).length<=10 ^ 6:=bB (by decide) h1
  exact_mod_cast h7
 have e:(10:Int) ^ 6=1000000:=by decide
 unfold rdV
 split<;>omega
theorem aHs {n:Int} (h0:-999999<=n) (h1:n<=999999):jN (Lib.itoa n)=some n:=by
 by_cases hn:0<=n
 ·obtain ⟨u,rfl⟩:=a6 hn
  rw [xD]
  have hs:rdS (Lib.decDigits u)=false:=by
   unfold rdS
   cases hd:Lib.decDigits u with
   | nil=>rfl
   | cons b r =>
    have:=kW u b (by rw [hd]; simp)
    have hb:b≠45:=fun e=>by rw [e] at this; revert this; decide
    simp [hb]
  have hu:kJ (Lib.decDigits u)=Lib.decDigits u:=by unfold kJ; rw [if_neg (by rw [hs]; decide)]
  have hv:rdV (Lib.decDigits u)=(u:Int):=by unfold rdV; rw [if_neg (by rw [hs]; decide),hu,aB1]
  unfold jN
  rw [hv,hu,if_pos ⟨aJ.2 (l6 u),xC 5 u (by omega),aEw u,xD u⟩]
 ·obtain ⟨u,rfl⟩:∃ u:Nat,n=-(u:Int):=⟨n.natAbs,by omega⟩
  rw [yP u (by omega)]
  have hs:rdS (45 :: Lib.decDigits u)=true:=by
   have:=aJ.2 (l6 u)
   simp only [rdS,aH,List.head?_cons,beq_self_eq_true,bK,decide_eq_true_eq]
   omega
  have hu:kJ (45 :: Lib.decDigits u)=Lib.decDigits u:=by unfold kJ; rw [if_pos hs]; rfl
  have hv:rdV (45 :: Lib.decDigits u)=-(u:Int):=by unfold rdV; rw [if_pos hs,hu,aB1]
  unfold jN
  rw [hv,hu,if_pos ⟨aJ.2 (l6 u),xC 5 u (by omega),aEw u,yP u (by omega)⟩]
theorem sG {s:List UInt8} {n:Int} (h:jN s=some n):Lib.itoa n=s/\-999999<=n/\n<=999999:=by
 unfold jN at h
 split at h
 ·rename_i hc
  injection h with h
  subst h
  exact ⟨hc.2.2.2,aE4 hc.2.1 hc.2.2.1⟩
 ·cases h
end Go.Pe.Tryz
namespace Go.Pe.Tryz
open Go.Proofs.Tryz Go.Sort
theorem zG {s:List UInt8} {i:Nat} {b:UInt8} (hb:s[i]?=some b):s9 (s.take (i + 1))=10 * s9 (s.take i) + ((b.toNat:Int) - 48):=by
 have hi:=cQ hb
 have:s.take (i + 1)=s.take i ++ [b]:=by
  rw [List.take_succ_eq_append_getElem hi]
  rw [List.getElem?_eq_getElem hi] at hb
  injection hb with hb
  rw [hb]
 rw [this,uR]
theorem lP {s:List UInt8} {i:Nat} (hi:i<=s.length) (h7:s.length<=7) (ha:∀ j b,j < i->s[j]?=some b->lF b=true):0<=s9 (s.take i)/\s9 (s.take i) < 10000000:=by
 have hal:(s.take i).all lF=true:=aK.2 fun b hb=>by
  obtain ⟨j,hj⟩:=List.getElem?_of_mem hb
  rw [List.getElem?_take] at hj
  split at hj
  ·exact ha j b (by assumption) hj
  ·cases hj
 have hb:=aI4 (s.take i).length (s.take i) rfl hal
 have:(10:Int) ^ (s.take i).length<=10 ^ 7:=by
  have h7:(10:Nat) ^ (s.take i).length<=10 ^ 7:=bB (by decide) (by rw [aR]; omega)
  exact_mod_cast h7
 have e:(10:Int) ^ 7=10000000:=by decide
 omega
theorem zC (n:Int) (h:-1000000000<=n) (h1:n<=1000000000):Fn prog 89 [.int .i64 n] (fun rs=>rs=[.str (Lib.itoa n)]):=by
 by_cases h0:0<=n
 ·exact fI n h0 (by simp only [dX]; omega)
 ·have hN:=fI (-n) (by omega) (by simp only [dX]; omega)
  have hd:decide (n < 0)=true:=decide_eq_true (by omega)
  obtain ⟨u,hu⟩:∃ u:Nat,n=-(u:Int):=⟨n.natAbs,by omega⟩
  have hi:Lib.itoa n=45 :: Lib.itoa (-n):=by
   rw [hu,yP u (by omega),Int.neg_neg,xD]
  have hle:=eL (-n) (by simp only [dX]; omega)
  rw [hi]
  refine cW aQm [] ?_
  dsimp only [aQm,m89,rF,cS,cE,cR,c8]
  try simp only [wQ]
  repeat' (first|(simp only [hd,↓wA,↓wC,wB,bQ,reduceIte,reduceCtorEq])|(refine cJ (hN) rfl rfl ?_)|(refine cL (hN) rfl rfl ?_)|(refine cL hN rfl rfl ?_)|(with_reducible refine cM ?_ ?_; focus (simp only [dX]; omega))|(with_reducible refine cO ?_ ?_; focus ((try simp only [aH,aC]); omega))|((first|apply cH|apply cI|apply cG)<;>intro h<;>try simp only [h]))
  all_goals rfl
def rdR (s:List UInt8):List D:=match jN s with
 | some n=>[.int .i64 n,.bool true]
 | none=>[.int .i64 0,.bool false]
theorem lU {s:List UInt8} (h:¬ (1<=(kJ s).length/\(kJ s).length<=6/\(kJ s).all lF=true/\Lib.itoa (rdV s)=s)):rdR s=[.int .i64 0,.bool false]:=by
 unfold rdR jN; rw [if_neg h]
theorem aBk {s:List UInt8} (h:1<=(kJ s).length/\(kJ s).length<=6/\(kJ s).all lF=true/\Lib.itoa (rdV s)=s):rdR s=[.int .i64 (rdV s),.bool true]:=by
 unfold rdR jN; rw [if_pos h]
theorem aGx {s:List UInt8} (h:rdS s=true):∃ t,s=45 :: t/\t≠[]:=by
 unfold rdS at h
 cases s with
 | nil=>simp at h
 | cons b t =>
  simp only [aH,List.head?_cons,aF,decide_eq_true_eq,beq_iff_eq,Option.some.injEq] at h
  exact ⟨t,by rw [h.2],fun e=>by rw [e] at h; simp at h⟩
theorem aKM {s:List UInt8} (h:rdS s=false):s.length<=1\/∃ b t,s=b :: t/\t≠[]/\decide ((b.toNat:Int)=45)=false:=by
 cases s with
 | nil=>left; simp
 | cons b t =>
  by_cases ht:t=[]
  ·left; rw [ht]; simp
  ·right
   refine ⟨b,t,rfl,ht,decide_eq_false fun e=>?_⟩
   have hb:b=45:=UInt8.toNat_inj.1 (by have:(45:UInt8).toNat=45:=rfl; omega)
   have:=aJ.2 ht
   unfold rdS at h
   rw [hb] at h
   simp only [aH,List.head?_cons,beq_self_eq_true,bK,decide_eq_false_iff_not] at h
   omega
theorem aWc (s:List UInt8):decide (((kJ s).length:Int) < (s.length:Int))=rdS s:=by
 cases h:rdS s with
 | true =>
  obtain ⟨t,rfl,ht⟩:=aGx h
  unfold kJ
  rw [if_pos h]
  exact decide_eq_true (by simp only [aU,bG,aH]; omega)
 | false =>
  unfold kJ
  rw [if_neg (by rw [h]; decide)]
  exact decide_eq_false (by omega)
theorem aJS (s:List UInt8) (hl:s.length<=100000000):Fn prog 88 [.str s] (fun rs=>rs=rdR s):=by
 have hlt:=aWc s
 have hV:rdV s=if rdS s=true then -(s9 (kJ s)) else s9 (kJ s):=rfl
 cases hS:rdS s with
 | true =>
  rw [hS] at hlt hV
  obtain ⟨t,rfl,ht⟩:=aGx hS
  have hU:t=kJ (45 :: t):=by unfold kJ; rw [if_pos hS]; rfl
  have hps:=aJ.2 ht
  simp only [aH] at hl
  have d1:decide ((1:Int) < ((t.length + 1:Nat):Int))=true:=decide_eq_true (by omega)
  have d1':(45 :: t:List UInt8)[(0:Int).toNat]?=some 45:=rfl
  have d1'':decide (((45:UInt8).toNat:Int)=45)=true:=rfl
  have hdr:(45 :: t:List UInt8).drop (1:Int).toNat=t:=rfl
  refine cW aKT [[1,1,1,0,0]] ?_
  dsimp only [aKT,m88,rF,cS,cE,cR,c8]
  try simp only [wQ]
  repeat' (first|(simp only [cK,d1,d1',d1'',hdr,↓wA,↓wC,wB,bQ,reduceIte,reduceCtorEq])|(with_reducible refine cO ?_ ?_; focus omega)|((first|apply cH|apply cI|apply cG)<;>intro h<;>try simp only [h]))
  refine dB (s':=⟨[(0,.d (.str (45 :: t))),(4,.d (.str (kJ (45 :: t))))],[]⟩) (cV [] rfl ⟨⟨rfl,rfl⟩,⟨congrArg (fun x=>SV.d (.str x)) hU,rfl⟩,trivial⟩) ?_
  generalize hs:(45 :: t:List UInt8)=s at *
  clear hU
  have hW:=iA ((kJ s).length:Int) 1 6
  cases hw:c6 ((kJ s).length:Int) 1 6 with
  | false =>
   rw [hw] at hW
   rw [lU (fun h=>by
    have:c6 ((kJ s).length:Int) 1 6=true:=by simp only [c6,aF,decide_eq_true_eq]; omega
    rw [hw] at this; cases this)]
   repeat' (first|(simp only [↓wA,↓wC,wB,bQ,reduceIte,reduceCtorEq])|(refine cJ (hW) rfl rfl ?_)|(refine cL (hW) rfl rfl ?_)|((first|apply cH|apply cI|apply cG)<;>intro h<;>try simp only [h]))
  | true =>
   rw [hw] at hW
   have hwl:1<=(kJ s).length/\(kJ s).length<=6:=by
    simp only [c6,aF,decide_eq_true_eq] at hw; omega
   repeat' (first|(simp only [↓wA,↓wC,wB,bQ,reduceIte,reduceCtorEq])|(refine cJ (hW) rfl rfl ?_)|(refine cL (hW) rfl rfl ?_)|((first|apply cH|apply cI|apply cG)<;>intro h<;>try simp only [h]))
   refine dV (kJ s).length (fun i:Nat=>⟨[(0,.d (.str s)),(4,.d (.str (kJ s))),(5,.d (.int .i64 (s9 ((kJ s).take i)))),(6,.d (.int .i64 i))],[]⟩) (fun i=>∀ j b,j < i->(kJ s)[j]?=some b->lF b=true) (cV _ rfl ⟨⟨rfl,rfl⟩,⟨rfl,rfl⟩,⟨rfl,rfl⟩,⟨rfl,rfl⟩,trivial⟩) (fun j r hj=>by omega) ?_ ?_
   ·intro i hlti hinv hd2 hi0
    obtain ⟨b,hb⟩:=dW hlti
    have hbd:=lP (i:=i) (by omega) (by omega) (fun j c hj hc=>hinv j c hj hc)
    have hst:=zG hb
    have hno:lF b=false->rdR s=[.int .i64 0,.bool false]:=fun h=>lU fun hh=>by
     have:=aK.1 hh.2.2.1 b (aD hb)
     rw [h] at this; cases this
    by_cases h48:48<=b.toNat
    ·have e48:decide ((b.toNat:Int) < 48)=false:=decide_eq_false (by omega)
     by_cases h57:b.toNat<=57
     ·have e57:decide ((57:Int) < (b.toNat:Int))=false:=decide_eq_false (by omega)
      repeat' (first|(simp only [hd2,hi0,hb,e48,e57,aB,cK,↓wA,↓wC,wB,bQ,reduceIte,reduceCtorEq])|(with_reducible refine cM ?_ ?_; focus (simp only [dX]; omega))|((first|apply cH|apply cI|apply cG)<;>intro h<;>try simp only [h]))
      all_goals
       refine e7 (cV _ rfl ⟨⟨rfl,rfl⟩,⟨rfl,rfl⟩,⟨congrArg (fun n=>SV.d (.int .i64 n)) hst.symm,rfl⟩,⟨rfl,rfl⟩,trivial⟩) hlti fun j c hj hc=>?_
       by_cases e:j=i
       ·subst e; rw [hb] at hc; injection hc with hc; rw [<- hc]; simp [lF,h48,h57]
       ·exact hinv j c (by omega) hc
     ·have e57:decide ((57:Int) < (b.toNat:Int))=true:=decide_eq_true (by omega)
      rw [hno (by simp [lF,h57])]
      repeat' (first|(simp only [hd2,hi0,hb,e48,e57,aB,cK,↓wA,↓wC,wB,bQ,reduceIte,reduceCtorEq])|(with_reducible refine cM ?_ ?_; focus (simp only [dX]; omega))|((first|apply cH|apply cI|apply cG)<;>intro h<;>try simp only [h]))
    ·have e48:decide ((b.toNat:Int) < 48)=true:=decide_eq_true (by omega)
     rw [hno (by simp [lF,h48])]
     repeat' (first|(simp only [hd2,hi0,hb,e48,aB,cK,↓wA,↓wC,wB,bQ,reduceIte,reduceCtorEq])|(with_reducible refine cM ?_ ?_; focus (simp only [dX]; omega))|((first|apply cH|apply cI|apply cG)<;>intro h<;>try simp only [h]))
   ·intro hinv hd2
    have hall:(kJ s).all lF=true:=aK.2 fun b hb=>by
     obtain ⟨j,hj⟩:=List.getElem?_of_mem hb
     exact hinv j b (cQ hj) hj
    have hbd:=lP (s:=kJ s) (i:=(kJ s).length) (aG _) (by omega) (fun j c hj hc=>hinv j c hj hc)
    rw [aL] at hbd
    have hvb:=aE4 hwl.2 hall
    have hN:=zC (rdV s) (by omega) (by omega)
    simp only [if_true] at hV
    rw [aL]
    by_cases he:Lib.itoa (rdV s)=s
    ·have de:decide (Lib.itoa (rdV s)=s)=true:=decide_eq_true he
     rw [aBk ⟨hwl.1,hwl.2,hall,he⟩]
     rw [hV] at hN de ⊢
     repeat' (first|(simp only [hd2,hlt,de,↓wA,↓wC,wB,bQ,reduceIte,reduceCtorEq])|(refine cJ (hN) rfl rfl ?_)|(refine cL (hN) rfl rfl ?_)|(with_reducible refine cM ?_ ?_; focus (simp only [dX]; omega))|((first|apply cH|apply cI|apply cG)<;>intro h<;>try simp only [h]))
    ·have de:decide (Lib.itoa (rdV s)=s)=false:=decide_eq_false he
     rw [lU fun h=>he h.2.2.2]
     rw [hV] at hN de
     repeat' (first|(simp only [hd2,hlt,de,↓wA,↓wC,wB,bQ,reduceIte,reduceCtorEq])|(refine cJ (hN) rfl rfl ?_)|(refine cL (hN) rfl rfl ?_)|(with_reducible refine cM ?_ ?_; focus (simp only [dX]; omega))|((first|apply cH|apply cI|apply cG)<;>intro h<;>try simp only [h]))
 | false =>
  rw [hS] at hlt hV
  have hU:s=kJ s:=by unfold kJ; rw [if_neg (by rw [hS]; decide)]
  rcases aKM hS with h1|⟨b,t,hbt,ht,hb⟩
  ·have d1:decide ((1:Int) < (s.length:Int))=false:=decide_eq_false (by omega)
   refine cW aKT [[1,1,1,0,0]] ?_
   dsimp only [aKT,m88,rF,cS,cE,cR,c8]
   try simp only [wQ]
   repeat' (first|(simp only [cK,d1,↓wA,↓wC,wB,bQ,reduceIte,reduceCtorEq])|(with_reducible refine cO ?_ ?_; focus omega)|((first|apply cH|apply cI|apply cG)<;>intro h<;>try simp only [h]))
   refine dB (s':=⟨[(0,.d (.str s)),(4,.d (.str (kJ s)))],[]⟩) (cV [] rfl ⟨⟨rfl,rfl⟩,⟨congrArg (fun x=>SV.d (.str x)) hU,rfl⟩,trivial⟩) ?_
   clear hU
   have hW:=iA ((kJ s).length:Int) 1 6
   cases hw:c6 ((kJ s).length:Int) 1 6 with
   | false =>
    rw [hw] at hW
    rw [lU (fun h=>by
     have:c6 ((kJ s).length:Int) 1 6=true:=by simp only [c6,aF,decide_eq_true_eq]; omega
     rw [hw] at this; cases this)]
    repeat' (first|(simp only [↓wA,↓wC,wB,bQ,reduceIte,reduceCtorEq])|(refine cJ (hW) rfl rfl ?_)|(refine cL (hW) rfl rfl ?_)|((first|apply cH|apply cI|apply cG)<;>intro h<;>try simp only [h]))
   | true =>
    rw [hw] at hW
    have hwl:1<=(kJ s).length/\(kJ s).length<=6:=by
     simp only [c6,aF,decide_eq_true_eq] at hw; omega
    repeat' (first|(simp only [↓wA,↓wC,wB,bQ,reduceIte,reduceCtorEq])|(refine cJ (hW) rfl rfl ?_)|(refine cL (hW) rfl rfl ?_)|((first|apply cH|apply cI|apply cG)<;>intro h<;>try simp only [h]))
    refine dV (kJ s).length (fun i:Nat=>⟨[(0,.d (.str s)),(4,.d (.str (kJ s))),(5,.d (.int .i64 (s9 ((kJ s).take i)))),(6,.d (.int .i64 i))],[]⟩) (fun i=>∀ j b,j < i->(kJ s)[j]?=some b->lF b=true) (cV _ rfl ⟨⟨rfl,rfl⟩,⟨rfl,rfl⟩,⟨rfl,rfl⟩,⟨rfl,rfl⟩,trivial⟩) (fun j r hj=>by omega) ?_ ?_
    ·intro i hlti hinv hd2 hi0
     obtain ⟨b,hb⟩:=dW hlti
     have hbd:=lP (i:=i) (by omega) (by omega) (fun j c hj hc=>hinv j c hj hc)
     have hst:=zG hb
     have hno:lF b=false->rdR s=[.int .i64 0,.bool false]:=fun h=>lU fun hh=>by
      have:=aK.1 hh.2.2.1 b (aD hb)
      rw [h] at this; cases this
     by_cases h48:48<=b.toNat
     ·have e48:decide ((b.toNat:Int) < 48)=false:=decide_eq_false (by omega)
      by_cases h57:b.toNat<=57
      ·have e57:decide ((57:Int) < (b.toNat:Int))=false:=decide_eq_false (by omega)
       repeat' (first|(simp only [hd2,hi0,hb,e48,e57,aB,cK,↓wA,↓wC,wB,bQ,reduceIte,reduceCtorEq])|(with_reducible refine cM ?_ ?_; focus (simp only [dX]; omega))|((first|apply cH|apply cI|apply cG)<;>intro h<;>try simp only [h]))
       all_goals
        refine e7 (cV _ rfl ⟨⟨rfl,rfl⟩,⟨rfl,rfl⟩,⟨congrArg (fun n=>SV.d (.int .i64 n)) hst.symm,rfl⟩,⟨rfl,rfl⟩,trivial⟩) hlti fun j c hj hc=>?_
        by_cases e:j=i
        ·subst e; rw [hb] at hc; injection hc with hc; rw [<- hc]; simp [lF,h48,h57]
        ·exact hinv j c (by omega) hc
      ·have e57:decide ((57:Int) < (b.toNat:Int))=true:=decide_eq_true (by omega)
       rw [hno (by simp [lF,h57])]
       repeat' (first|(simp only [hd2,hi0,hb,e48,e57,aB,cK,↓wA,↓wC,wB,bQ,reduceIte,reduceCtorEq])|(with_reducible refine cM ?_ ?_; focus (simp only [dX]; omega))|((first|apply cH|apply cI|apply cG)<;>intro h<;>try simp only [h]))
     ·have e48:decide ((b.toNat:Int) < 48)=true:=decide_eq_true (by omega)
      rw [hno (by simp [lF,h48])]
      repeat' (first|(simp only [hd2,hi0,hb,e48,aB,cK,↓wA,↓wC,wB,bQ,reduceIte,reduceCtorEq])|(with_reducible refine cM ?_ ?_; focus (simp only [dX]; omega))|((first|apply cH|apply cI|apply cG)<;>intro h<;>try simp only [h]))
    ·intro hinv hd2
     have hall:(kJ s).all lF=true:=aK.2 fun b hb=>by
      obtain ⟨j,hj⟩:=List.getElem?_of_mem hb
      exact hinv j b (cQ hj) hj
     have hbd:=lP (s:=kJ s) (i:=(kJ s).length) (aG _) (by omega) (fun j c hj hc=>hinv j c hj hc)
     rw [aL] at hbd
     have hvb:=aE4 hwl.2 hall
     have hN:=zC (rdV s) (by omega) (by omega)
     simp only [aP,if_false] at hV
     rw [aL]
     by_cases he:Lib.itoa (rdV s)=s
     ·have de:decide (Lib.itoa (rdV s)=s)=true:=decide_eq_true he
      rw [aBk ⟨hwl.1,hwl.2,hall,he⟩]
      rw [hV] at hN de ⊢
      repeat' (first|(simp only [hd2,hlt,de,↓wA,↓wC,wB,bQ,reduceIte,reduceCtorEq])|(refine cJ (hN) rfl rfl ?_)|(refine cL (hN) rfl rfl ?_)|(with_reducible refine cM ?_ ?_; focus (simp only [dX]; omega))|((first|apply cH|apply cI|apply cG)<;>intro h<;>try simp only [h]))
     ·have de:decide (Lib.itoa (rdV s)=s)=false:=decide_eq_false he
      rw [lU fun h=>he h.2.2.2]
      rw [hV] at hN de
      repeat' (first|(simp only [hd2,hlt,de,↓wA,↓wC,wB,bQ,reduceIte,reduceCtorEq])|(refine cJ (hN) rfl rfl ?_)|(refine cL (hN) rfl rfl ?_)|(with_reducible refine cM ?_ ?_; focus (simp only [dX]; omega))|((first|apply cH|apply cI|apply cG)<;>intro h<;>try simp only [h]))
  ·have hps:=aJ.2 ht
   have d1:decide ((1:Int) < (s.length:Int))=true:=decide_eq_true (by rw [hbt,aH]; omega)
   have d1':s[(0:Int).toNat]?=some b:=by rw [hbt]; rfl
   refine cW aKT [[1,1,1,0,0]] ?_
   dsimp only [aKT,m88,rF,cS,cE,cR,c8]
   try simp only [wQ]
   repeat' (first|(simp only [cK,d1,d1',hb,↓wA,↓wC,wB,bQ,reduceIte,reduceCtorEq])|(with_reducible refine cO ?_ ?_; focus omega)|((first|apply cH|apply cI|apply cG)<;>intro h<;>try simp only [h]))
   refine dB (s':=⟨[(0,.d (.str s)),(4,.d (.str (kJ s)))],[]⟩) (cV [] rfl ⟨⟨rfl,rfl⟩,⟨congrArg (fun x=>SV.d (.str x)) hU,rfl⟩,trivial⟩) ?_
   clear hU
   have hW:=iA ((kJ s).length:Int) 1 6
   cases hw:c6 ((kJ s).length:Int) 1 6 with
   | false =>
    rw [hw] at hW
    rw [lU (fun h=>by
     have:c6 ((kJ s).length:Int) 1 6=true:=by simp only [c6,aF,decide_eq_true_eq]; omega
     rw [hw] at this; cases this)]
    repeat' (first|(simp only [↓wA,↓wC,wB,bQ,reduceIte,reduceCtorEq])|(refine cJ (hW) rfl rfl ?_)|(refine cL (hW) rfl rfl ?_)|((first|apply cH|apply cI|apply cG)<;>intro h<;>try simp only [h]))
   | true =>
    rw [hw] at hW
    have hwl:1<=(kJ s).length/\(kJ s).length<=6:=by
     simp only [c6,aF,decide_eq_true_eq] at hw; omega
    repeat' (first|(simp only [↓wA,↓wC,wB,bQ,reduceIte,reduceCtorEq])|(refine cJ (hW) rfl rfl ?_)|(refine cL (hW) rfl rfl ?_)|((first|apply cH|apply cI|apply cG)<;>intro h<;>try simp only [h]))
    refine dV (kJ s).length (fun i:Nat=>⟨[(0,.d (.str s)),(4,.d (.str (kJ s))),(5,.d (.int .i64 (s9 ((kJ s).take i)))),(6,.d (.int .i64 i))],[]⟩) (fun i=>∀ j b,j < i->(kJ s)[j]?=some b->lF b=true) (cV _ rfl ⟨⟨rfl,rfl⟩,⟨rfl,rfl⟩,⟨rfl,rfl⟩,⟨rfl,rfl⟩,trivial⟩) (fun j r hj=>by omega) ?_ ?_
    ·intro i hlti hinv hd2 hi0
     obtain ⟨b,hb⟩:=dW hlti
     have hbd:=lP (i:=i) (by omega) (by omega) (fun j c hj hc=>hinv j c hj hc)
     have hst:=zG hb
     have hno:lF b=false->rdR s=[.int .i64 0,.bool false]:=fun h=>lU fun hh=>by
      have:=aK.1 hh.2.2.1 b (aD hb)
      rw [h] at this; cases this
     by_cases h48:48<=b.toNat
     ·have e48:decide ((b.toNat:Int) < 48)=false:=decide_eq_false (by omega)
      by_cases h57:b.toNat<=57
      ·have e57:decide ((57:Int) < (b.toNat:Int))=false:=decide_eq_false (by omega)
       repeat' (first|(simp only [hd2,hi0,hb,e48,e57,aB,cK,↓wA,↓wC,wB,bQ,reduceIte,reduceCtorEq])|(with_reducible refine cM ?_ ?_; focus (simp only [dX]; omega))|((first|apply cH|apply cI|apply cG)<;>intro h<;>try simp only [h]))
       all_goals
        refine e7 (cV _ rfl ⟨⟨rfl,rfl⟩,⟨rfl,rfl⟩,⟨congrArg (fun n=>SV.d (.int .i64 n)) hst.symm,rfl⟩,⟨rfl,rfl⟩,trivial⟩) hlti fun j c hj hc=>?_
        by_cases e:j=i
        ·subst e; rw [hb] at hc; injection hc with hc; rw [<- hc]; simp [lF,h48,h57]
        ·exact hinv j c (by omega) hc
      ·have e57:decide ((57:Int) < (b.toNat:Int))=true:=decide_eq_true (by omega)
       rw [hno (by simp [lF,h57])]
       repeat' (first|(simp only [hd2,hi0,hb,e48,e57,aB,cK,↓wA,↓wC,wB,bQ,reduceIte,reduceCtorEq])|(with_reducible refine cM ?_ ?_; focus (simp only [dX]; omega))|((first|apply cH|apply cI|apply cG)<;>intro h<;>try simp only [h]))
     ·have e48:decide ((b.toNat:Int) < 48)=true:=decide_eq_true (by omega)
      rw [hno (by simp [lF,h48])]
      repeat' (first|(simp only [hd2,hi0,hb,e48,aB,cK,↓wA,↓wC,wB,bQ,reduceIte,reduceCtorEq])|(with_reducible refine cM ?_ ?_; focus (simp only [dX]; omega))|((first|apply cH|apply cI|apply cG)<;>intro h<;>try simp only [h]))
    ·intro hinv hd2
     have hall:(kJ s).all lF=true:=aK.2 fun b hb=>by
      obtain ⟨j,hj⟩:=List.getElem?_of_mem hb
      exact hinv j b (cQ hj) hj
     have hbd:=lP (s:=kJ s) (i:=(kJ s).length) (aG _) (by omega) (fun j c hj hc=>hinv j c hj hc)
     rw [aL] at hbd
     have hvb:=aE4 hwl.2 hall
     have hN:=zC (rdV s) (by omega) (by omega)
     simp only [aP,if_false] at hV
     rw [aL]
     by_cases he:Lib.itoa (rdV s)=s
     ·have de:decide (Lib.itoa (rdV s)=s)=true:=decide_eq_true he
      rw [aBk ⟨hwl.1,hwl.2,hall,he⟩]
      rw [hV] at hN de ⊢
      repeat' (first|(simp only [hd2,hlt,de,↓wA,↓wC,wB,bQ,reduceIte,reduceCtorEq])|(refine cJ (hN) rfl rfl ?_)|(refine cL (hN) rfl rfl ?_)|(with_reducible refine cM ?_ ?_; focus (simp only [dX]; omega))|((first|apply cH|apply cI|apply cG)<;>intro h<;>try simp only [h]))
     ·have de:decide (Lib.itoa (rdV s)=s)=false:=decide_eq_false he
      rw [lU fun h=>he h.2.2.2]
      rw [hV] at hN de
      repeat' (first|(simp only [hd2,hlt,de,↓wA,↓wC,wB,bQ,reduceIte,reduceCtorEq])|(refine cJ (hN) rfl rfl ?_)|(refine cL (hN) rfl rfl ?_)|(with_reducible refine cM ?_ ?_; focus (simp only [dX]; omega))|((first|apply cH|apply cI|apply cG)<;>intro h<;>try simp only [h]))
end Go.Pe.Tryz
namespace Go.Pe.Tryz
@[reducible] def mC : List UInt8 := [119, 97, 105, 116]
@[reducible] def jJ : List UInt8 := [101, 110, 116, 101, 114]
@[reducible] def m4 : List UInt8 := [104, 111, 108, 100]
@[reducible] def fZ : List UInt8 := [114, 101, 108, 101, 97, 115, 101]
@[reducible] def j4 : List UInt8 := [100, 101, 108, 97, 121]
@[reducible] def s7 : List UInt8 := [97, 99, 116]
@[reducible] def uE : List UInt8 := [100, 97, 121]
@[reducible] def uD : List UInt8 := [100, 117, 101]
@[reducible] def f8 : List UInt8 := [98, 108, 111, 99, 107, 101, 100]
@[reducible] def nB : List UInt8 := [114, 111, 111, 116]
@[reducible] def nG : List UInt8 := [104, 101, 108, 100]
@[reducible] def nP : List UInt8 := [99, 97, 115, 101]
@[reducible] def pV : List (List UInt8 × Int) := [(mC, 1), (jJ, 3), (m4, 2), (fZ, 1), (j4, 2), (s7, 1), (uE, 0), (uD, 0), (f8, 0), (nB, 0), (nG, 1), (nP, 1)]
def n9:List (List UInt8)->Option (List Int)
 | []=>some []
 | w :: ws=>match jN w with
  | some n=>(n9 ws).map (n :: ·)
  | none=>none
def n0 (n:List Int):Int:=n[0]?.getD 0
def n1' (n:List Int):Int:=n[1]?.getD 0
def n2' (n:List Int):Int:=n[2]?.getD 0
def lC (w:List UInt8) (n:List Int):Option Stp :=
 if w=mC then some ⟨1,0,0,n0 n⟩
 else if w=jJ then some ⟨2,n0 n,n1' n,n2' n⟩
 else if w=m4 then some ⟨3,n0 n,0,n1' n⟩
 else if w=fZ then some ⟨4,0,0,n0 n⟩
 else if w=j4 then some ⟨5,n0 n,0,n1' n⟩
 else if w=s7 then some ⟨6,n0 n,0,0⟩
 else none
def lV (l:List Int):List UInt8:=if l=[] then [110,111,110,101] else Lib.join (l.map Lib.itoa) [32]
def aAV (p:Cs->Bool) (o:Off):Option (List Int):=if dN o=true then some (lO p o.cs) else none
def zU (n:Int) (o:Off):Option (List Int):=if (dN o && c6 n 1 9)=true then some (lO (aBZ n) o.cs) else none
def aDS (o:Off):Option Int:=if dN o=true/\eG o.led=true then some (mA (o.led.map jE)) else none
def jI (o:Off) (id:Int):Option (List UInt8):=if dN o=true/\0<=fN o.cs id then some (txt (o.cs[(fN o.cs id).toNat]?.getD ⟨0,0,0,[]⟩)) else none
def aGT (o:Off):List Int:=[o.kept,o.moved,o.led.length]
def fE (b o:Off) (w:List UInt8) (n:List Int):Option (List UInt8) :=
 if w=mC\/w=uE then some (Lib.itoa o.day)
 else if w=fZ then (zU (n0 n) b).map lV
 else if w=s7 then some (lV (aGT o))
 else if w=uD then (aAV (qW o) o).map lV
 else if w=f8 then (aAV (pS o) o).map lV
 else if w=nB then (aDS o).map Lib.itoa
 else if w=nG then (zU (n0 n) o).map lV
 else jI o (n0 n)
def aAK (o:Off) (w:List UInt8) (ws:List (List UInt8)):Option (Off×List UInt8) :=
 match n9 ws with
 | none=>none
 | some n=>if lkp pV w=some (n.length:Int) then
   (match lC w n with
   | some s=>match gO o s.k s.i s.a s.v with
    | some q=>(fE o q w n).map fun r=>(q,r)
    | none=>none
   | none=>(fE o o w n).map fun r=>(o,r))
  else none
def qm:List UInt8:=[63]
def s4 (l:Option (List Int)):List UInt8:=(l.map lV).getD qm
def aBz (o:Off) (id:Int):List UInt8:=(jI o id).getD qm
def nN (o:Off) (s:Stp):Off×List UInt8 :=
 match gO o s.k s.i s.a s.v with
 | none=>(o,qm)
 | some q=>(q,if s.k=1 then Lib.itoa q.day else if s.k=4 then s4 (zU s.v o) else if s.k=6 then s4 (some (aGT q)) else aBz q s.i)
def kQ (o:Off) (l:List UInt8):List UInt8 :=
 if l=uE then Lib.itoa o.day
 else if l=uD then s4 (aAV (qW o) o)
 else if l=f8 then s4 (aAV (pS o) o)
 else if l=nB then ((aDS o).map Lib.itoa).getD qm
 else qm
def o7 (o:Off) (w:List UInt8) (n:Int):Off×List UInt8 :=
 if w=mC then nN o ⟨1,0,0,n⟩
 else if w=fZ then nN o ⟨4,0,0,n⟩
 else if w=s7 then nN o ⟨6,n,0,0⟩
 else if w=nG then (o,s4 (zU n o))
 else if w=nP then (o,aBz o n)
 else (o,qm)
def rB (o:Off) (w:List UInt8) (n v:Int):Off×List UInt8 :=
 if w=m4 then nN o ⟨3,n,0,v⟩
 else if w=j4 then nN o ⟨5,n,0,v⟩
 else (o,qm)
def nS (o:Off) (w:List UInt8) (ws:List (List UInt8)):Off×List UInt8 :=
 match n9 ws with
 | none=>(o,qm)
 | some []=>(o,kQ o w)
 | some [a]=>o7 o w a
 | some [a,b]=>rB o w a b
 | some [a,b,c]=>if w=jJ then nN o ⟨2,a,b,c⟩ else (o,qm)
 | some _=>(o,qm)
theorem aCR {xs:List Cs} {id:Int} {x:Cs} (hx:x∈xs) (hi:x.i=id):0<=fN xs id:=by
 have h:decide (0<=fN xs id)=true:=by
  unfold fN
  rw [rA]
  exact List.any_eq_true.2 ⟨x,hx,decide_eq_true hi⟩
 exact of_decide_eq_true h
theorem aGo {o q:Off} {k id a v:Int} (h:gO o k id a v=some q):mkO o k id a v=some q:=by
 unfold gO at h
 split at h
 ·cases hm:mkO o k id a v with
  | none=>rw [hm] at h; cases h
  | some p =>
   rw [hm] at h
   simp only [Option.filter] at h
   split at h
   ·exact h
   ·cases h
 ·cases h
theorem aLX {o q:Off} {k id a v:Int} (hk:k=2\/k=3\/k=5) (h:gO o k id a v=some q):0<=fN q.cs id:=by
 have hm:=aGo h
 unfold mkO at hm
 by_cases k2:k=2
 ·rw [if_pos k2] at hm
  split at hm
  ·cases hm
  ·injection hm with hm
   subst hm
   exact aCR (aDF ⟨id,a,o.day + v,[]⟩ o.cs) rfl
 ·rw [if_neg k2] at hm
  split at hm
  ·cases hm
  rw [if_neg (by omega),if_neg (by omega)] at hm
  split at hm
  ·rename_i hf
   rcases lM o.cs id with ⟨_,hn⟩|⟨i,x,hi,hr,hx⟩
   ·exact absurd hf (of_decide_eq_false hn)
   ·rw [hi,aB,hr] at hm
    simp only at hm
    split at hm
    ·split at hm
     ·cases hm
     ·injection hm with hm
      subst hm
      exact aCR (x:={ x with h:=j6 v x.h }) (aBf hr) hx
    ·split at hm
     ·split at hm
      ·injection hm with hm
       subst hm
       exact aCR (x:={ x with d:=x.d + v }) (aBf hr) hx
      ·cases hm
     ·omega
  ·cases hm
theorem mQ {o q:Off} {k id a v:Int} (hk:k=2\/k=3\/k=5) (h:gO o k id a v=some q):∃ r,jI q id=some r:=by
 unfold jI
 rw [if_pos ⟨xO h,aLX hk h⟩]
 exact ⟨_,rfl⟩
theorem aDs {o q:Off} {a v:Int} (h:gO o 4 0 a v=some q):∃ l,zU v o=some l:=by
 have ho:dN o=true:=by
  cases hh:dN o with
  | true=>rfl
  | false=>unfold gO at h; rw [hh] at h; cases h
 unfold zU
 rw [ho]
 cases hw:c6 v 1 9 with
 | true=>exact ⟨_,rfl⟩
 | false =>
  have hm:=aGo h
  unfold mkO at hm
  rw [if_neg (by decide)] at hm
  split at hm
  ·cases hm
  rw [if_neg (by decide),if_pos rfl] at hm
  split at hm
  ·rename_i hc
   have hv:v < 1\/9 < v:=by
    by_cases q:1<=v/\v<=9
    ·rw [iY q.1 q.2] at hw; cases hw
    ·omega
   rw [aJi ho hv] at hc
   cases hc.2
  ·cases hm
theorem zI:lkp pV mC=some 1:=by decide
theorem uP:lkp pV jJ=some 3:=by decide
theorem y8:lkp pV m4=some 2:=by decide
theorem oF:lkp pV fZ=some 1:=by decide
theorem u6:lkp pV j4=some 2:=by decide
theorem aDn:lkp pV s7=some 1:=by decide
theorem aCO:lkp pV uE=some 0:=by decide
theorem aBJ:lkp pV uD=some 0:=by decide
theorem mL:lkp pV f8=some 0:=by decide
theorem wG:lkp pV nB=some 0:=by decide
theorem wJ:lkp pV nG=some 1:=by decide
theorem wT:lkp pV nP=some 1:=by decide
theorem aSe (n:List Int):lC mC n=some ⟨1,0,0,n0 n⟩:=rfl
theorem aJr (n:List Int):lC jJ n=some ⟨2,n0 n,n1' n,n2' n⟩:=rfl
theorem aL4 (n:List Int):lC m4 n=some ⟨3,n0 n,0,n1' n⟩:=rfl
theorem aDU (n:List Int):lC fZ n=some ⟨4,0,0,n0 n⟩:=rfl
theorem aJw (n:List Int):lC j4 n=some ⟨5,n0 n,0,n1' n⟩:=rfl
theorem aVC (n:List Int):lC s7 n=some ⟨6,n0 n,0,0⟩:=rfl
theorem aLh (n:List Int):lC uE n=none:=rfl
theorem aLn (n:List Int):lC uD n=none:=rfl
theorem zP (n:List Int):lC f8 n=none:=rfl
theorem aIk (n:List Int):lC nB n=none:=rfl
theorem aHN (n:List Int):lC nG n=none:=rfl
theorem aHZ (n:List Int):lC nP n=none:=rfl
theorem aM7 (b o:Off) (n:List Int):fE b o mC n=some (Lib.itoa o.day):=rfl
theorem aIY (b o:Off) (n:List Int):fE b o jJ n=jI o (n0 n):=rfl
theorem aMO (b o:Off) (n:List Int):fE b o m4 n=jI o (n0 n):=rfl
theorem aDA (b o:Off) (n:List Int):fE b o fZ n=(zU (n0 n) b).map lV:=rfl
theorem aIT (b o:Off) (n:List Int):fE b o j4 n=jI o (n0 n):=rfl
theorem aRw (b o:Off) (n:List Int):fE b o s7 n=some (lV (aGT o)):=rfl
theorem aRO (b o:Off) (n:List Int):fE b o uE n=some (Lib.itoa o.day):=rfl
theorem aQN (b o:Off) (n:List Int):fE b o uD n=(aAV (qW o) o).map lV:=rfl
theorem aDl (b o:Off) (n:List Int):fE b o f8 n=(aAV (pS o) o).map lV:=rfl
theorem aMR (b o:Off) (n:List Int):fE b o nB n=(aDS o).map Lib.itoa:=rfl
theorem aLI (b o:Off) (n:List Int):fE b o nG n=(zU (n0 n) o).map lV:=rfl
theorem aL6 (b o:Off) (n:List Int):fE b o nP n=jI o (n0 n):=rfl
theorem aTb (o:Off):kQ o mC=qm:=rfl
theorem aR9 (o:Off) (n:Int):o7 o mC n=nN o ⟨1,0,0,n⟩:=rfl
theorem aSI (o:Off) (n v:Int):rB o mC n v=(o,qm):=rfl
theorem aOK (o:Off):kQ o jJ=qm:=rfl
theorem aPA (o:Off) (n:Int):o7 o jJ n=(o,qm):=rfl
theorem aOQ (o:Off) (n v:Int):rB o jJ n v=(o,qm):=rfl
theorem aSd (o:Off):kQ o m4=qm:=rfl
theorem aSP (o:Off) (n:Int):o7 o m4 n=(o,qm):=rfl
theorem aSo (o:Off) (n v:Int):rB o m4 n v=nN o ⟨3,n,0,v⟩:=rfl
theorem aKo (o:Off):kQ o fZ=qm:=rfl
theorem aKq (o:Off) (n:Int):o7 o fZ n=nN o ⟨4,0,0,n⟩:=rfl
theorem aKl (o:Off) (n v:Int):rB o fZ n v=(o,qm):=rfl
theorem aOr (o:Off):kQ o j4=qm:=rfl
theorem aPt (o:Off) (n:Int):o7 o j4 n=(o,qm):=rfl
theorem aNW (o:Off) (n v:Int):rB o j4 n v=nN o ⟨5,n,0,v⟩:=rfl
theorem aUw (o:Off):kQ o s7=qm:=rfl
theorem aUY (o:Off) (n:Int):o7 o s7 n=nN o ⟨6,n,0,0⟩:=rfl
theorem aU3 (o:Off) (n v:Int):rB o s7 n v=(o,qm):=rfl
theorem aRr (o:Off):kQ o uE=Lib.itoa o.day:=rfl
theorem aUv (o:Off) (n:Int):o7 o uE n=(o,qm):=rfl
theorem aV8 (o:Off) (n v:Int):rB o uE n v=(o,qm):=rfl
theorem aRy (o:Off):kQ o uD=s4 (aAV (qW o) o):=rfl
theorem aUh (o:Off) (n:Int):o7 o uD n=(o,qm):=rfl
theorem aVZ (o:Off) (n v:Int):rB o uD n v=(o,qm):=rfl
theorem aDC (o:Off):kQ o f8=s4 (aAV (pS o) o):=rfl
theorem aJP (o:Off) (n:Int):o7 o f8 n=(o,qm):=rfl
theorem aK2 (o:Off) (n v:Int):rB o f8 n v=(o,qm):=rfl
theorem aLz (o:Off):kQ o nB=((aDS o).map Lib.itoa).getD qm:=rfl
theorem aSZ (o:Off) (n:Int):o7 o nB n=(o,qm):=rfl
theorem aR0 (o:Off) (n v:Int):rB o nB n v=(o,qm):=rfl
theorem aSa (o:Off):kQ o nG=qm:=rfl
theorem aMT (o:Off) (n:Int):o7 o nG n=(o,s4 (zU n o)):=rfl
theorem aTi (o:Off) (n v:Int):rB o nG n v=(o,qm):=rfl
theorem aTk (o:Off):kQ o nP=qm:=rfl
theorem aNm (o:Off) (n:Int):o7 o nP n=(o,aBz o n):=rfl
theorem aS1 (o:Off) (n v:Int):rB o nP n v=(o,qm):=rfl
theorem nX (w:List UInt8):w=mC\/w=jJ\/w=m4\/w=fZ\/w=j4\/w=s7\/w=uE\/w=uD\/w=f8\/w=nB\/w=nG\/w=nP\/(w≠mC/\w≠jJ/\w≠m4/\w≠fZ/\w≠j4/\w≠s7/\w≠uE/\w≠uD/\w≠f8/\w≠nB/\w≠nG/\w≠nP):=by
 by_cases hWait:w=mC
 ·simp [hWait]
 by_cases hEnter:w=jJ
 ·simp [hEnter]
 by_cases hHold:w=m4
 ·simp [hHold]
 by_cases hRelease:w=fZ
 ·simp [hRelease]
 by_cases hDelay:w=j4
 ·simp [hDelay]
 by_cases hAct:w=s7
 ·simp [hAct]
 by_cases hDay:w=uE
 ·simp [hDay]
 by_cases hDue:w=uD
 ·simp [hDue]
 by_cases hBlocked:w=f8
 ·simp [hBlocked]
 by_cases hRoot:w=nB
 ·simp [hRoot]
 by_cases hHeld:w=nG
 ·simp [hHeld]
 by_cases hCase:w=nP
 ·simp [hCase]
 simp [hWait,hEnter,hHold,hRelease,hDelay,hAct,hDay,hDue,hBlocked,hRoot,hHeld,hCase]
theorem wV {w:List UInt8} (h:w≠mC/\w≠jJ/\w≠m4/\w≠fZ/\w≠j4/\w≠s7/\w≠uE/\w≠uD/\w≠f8/\w≠nB/\w≠nG/\w≠nP):lkp pV w=none:=by
 obtain ⟨h0,h1,h2,h3,h4,h5,h6,h7,h8,h9,jT,h11⟩:=h
 simp only [lkp,if_neg h0,if_neg h1,if_neg h2,if_neg h3,if_neg h4,if_neg h5,if_neg h6,if_neg h7,if_neg h8,if_neg h9,if_neg jT,if_neg h11]
theorem aIQ (o:Off) (w:List UInt8) (ws:List (List UInt8)) (ho:dN o=true):nS o w ws=(aAK o w ws).getD (o,qm):=by
 unfold nS aAK
 have hm:∀ (s:Stp) (f:Off->Option (List UInt8)),(∀ q,gO o s.k s.i s.a s.v=some q->(if s.k=1 then Lib.itoa q.day else if s.k=4 then s4 (zU s.v o) else if s.k=6 then s4 (some (aGT q)) else aBz q s.i)=(f q).getD qm/\(f q).isSome=true) ->
   nN o s=((match gO o s.k s.i s.a s.v with
    | some q=>(f q).map fun r=>(q,r)
    | none=>none):Option (Off×List UInt8)).getD (o,qm):=by
  intro s f hf
  unfold nN
  cases h:gO o s.k s.i s.a s.v with
  | none=>rfl
  | some q =>
   obtain ⟨h1,h2⟩:=hf q h
   simp only
   rw [h1]
   cases hq:f q with
   | none=>rw [hq] at h2; cases h2
   | some r=>rfl
 have hg:∀ x:Option (List UInt8),(x.map fun r=>(o,r)).getD (o,qm)=(o,x.getD qm):=fun x=>by cases x<;>rfl
 have hl:∀ x:Option (List Int),(x.map lV).getD qm=s4 x:=fun x=>rfl
 have hla:∀ x:List Int,s4 (some x)=lV x:=fun x=>rfl
 have hcs:∀ (q:Off) (i:Int),(jI q i).getD qm=aBz q i:=fun _ _=>rfl
 cases hn:n9 ws with
 | none=>rfl
 | some n =>
  have hn0:n0 n=n0 n:=rfl
  match n,hn with
  | [],_ =>
   rcases nX w with rfl|rfl|rfl|rfl|rfl|rfl|rfl|rfl|rfl|rfl|rfl|rfl|h
   ·simp only [zI,aTb]
    rfl
   ·simp only [uP,aOK]
    rfl
   ·simp only [y8,aSd]
    rfl
   ·simp only [oF,aKo]
    rfl
   ·simp only [u6,aOr]
    rfl
   ·simp only [aDn,aUw]
    rfl
   ·simp only [aCO,aLh,aRO,aRr]
    rw [if_pos (show (some 0:Option Int)=some (((([]:List Int)).length:Nat):Int) from rfl),hg]
    try rfl
   ·simp only [aBJ,aLn,aQN,aRy]
    rw [if_pos (show (some 0:Option Int)=some (((([]:List Int)).length:Nat):Int) from rfl),hg]
    try rfl
   ·simp only [mL,zP,aDl,aDC]
    rw [if_pos (show (some 0:Option Int)=some (((([]:List Int)).length:Nat):Int) from rfl),hg]
    try rfl
   ·simp only [wG,aIk,aMR,aLz]
    rw [if_pos (show (some 0:Option Int)=some (((([]:List Int)).length:Nat):Int) from rfl),hg]
    try rfl
   ·simp only [wJ,aSa]
    rfl
   ·simp only [wT,aTk]
    rfl
   ·simp only [wV h]
    rw [if_neg (fun e=>by cases e)]
    unfold kQ
    rw [if_neg h.2.2.2.2.2.2.1,if_neg h.2.2.2.2.2.2.2.1,if_neg h.2.2.2.2.2.2.2.2.1,if_neg h.2.2.2.2.2.2.2.2.2.1]
    rfl
  | [a],_ =>
   rcases nX w with rfl|rfl|rfl|rfl|rfl|rfl|rfl|rfl|rfl|rfl|rfl|rfl|h
   ·exact hm ⟨1,0,0,a⟩ (fun q=>some (Lib.itoa q.day)) (fun q _=>⟨rfl,rfl⟩)
   ·simp only [uP,aPA]
    rfl
   ·simp only [y8,aSP]
    rfl
   ·exact hm ⟨4,0,0,a⟩ (fun _=>(zU a o).map lV) (fun q h=>by
     obtain ⟨l,hl⟩:=aDs h
     exact ⟨by simp only [hl]; rfl,by simp only [hl]; rfl⟩)
   ·simp only [u6,aPt]
    rfl
   ·exact hm ⟨6,a,0,0⟩ (fun q=>some (lV (aGT q))) (fun q _=>⟨rfl,rfl⟩)
   ·simp only [aCO,aUv]
    rfl
   ·simp only [aBJ,aUh]
    rfl
   ·simp only [mL,aJP]
    rfl
   ·simp only [wG,aSZ]
    rfl
   ·simp only [wJ,aHN,aLI,aMT]
    rw [if_pos (show (some 1:Option Int)=some (((([a]:List Int)).length:Nat):Int) from rfl),hg]
    try rfl
   ·simp only [wT,aHZ,aL6,aNm]
    rw [if_pos (show (some 1:Option Int)=some (((([a]:List Int)).length:Nat):Int) from rfl),hg]
    try rfl
   ·simp only [wV h]
    rw [if_neg (fun e=>by cases e)]
    unfold o7
    rw [if_neg h.1,if_neg h.2.2.2.1,if_neg h.2.2.2.2.2.1,if_neg h.2.2.2.2.2.2.2.2.2.2.1,if_neg h.2.2.2.2.2.2.2.2.2.2.2]
    rfl
  | [a,b],_ =>
   rcases nX w with rfl|rfl|rfl|rfl|rfl|rfl|rfl|rfl|rfl|rfl|rfl|rfl|h
   ·simp only [zI,aSI]
    rfl
   ·simp only [uP,aOQ]
    rfl
   ·exact hm ⟨3,a,0,b⟩ (fun q=>jI q a) (fun q h=>by
     obtain ⟨r,hr⟩:=mQ (by simp) h
     exact ⟨rfl,by simp only [hr]; rfl⟩)
   ·simp only [oF,aKl]
    rfl
   ·exact hm ⟨5,a,0,b⟩ (fun q=>jI q a) (fun q h=>by
     obtain ⟨r,hr⟩:=mQ (by simp) h
     exact ⟨rfl,by simp only [hr]; rfl⟩)
   ·simp only [aDn,aU3]
    rfl
   ·simp only [aCO,aV8]
    rfl
   ·simp only [aBJ,aVZ]
    rfl
   ·simp only [mL,aK2]
    rfl
   ·simp only [wG,aR0]
    rfl
   ·simp only [wJ,aTi]
    rfl
   ·simp only [wT,aS1]
    rfl
   ·simp only [wV h]
    rw [if_neg (fun e=>by cases e)]
    unfold rB
    rw [if_neg h.2.2.1,if_neg h.2.2.2.2.1]
    rfl
  | [a,b,c],_ =>
   rcases nX w with rfl|rfl|rfl|rfl|rfl|rfl|rfl|rfl|rfl|rfl|rfl|rfl|h
   ·simp only [zI]
    rfl
   ·exact hm ⟨2,a,b,c⟩ (fun q=>jI q a) (fun q h=>by
     obtain ⟨r,hr⟩:=mQ (by simp) h
     exact ⟨rfl,by simp only [hr]; rfl⟩)
   ·simp only [y8]
    rfl
   ·simp only [oF]
    rfl
   ·simp only [u6]
    rfl
   ·simp only [aDn]
    rfl
   ·simp only [aCO]
    rfl
   ·simp only [aBJ]
    rfl
   ·simp only [mL]
    rfl
   ·simp only [wG]
    rfl
   ·simp only [wJ]
    rfl
   ·simp only [wT]
    rfl
   ·simp only [wV h]
    rw [if_neg h.2.1,if_neg (show ¬ (none:Option Int)=some _ from fun e=>by cases e)]
    rfl
  | a :: b :: c :: d :: r,_ =>
   have hlen:∀ m:Int,m<=3->¬ (some m:Option Int)=some (((a :: b :: c :: d :: r).length:Nat):Int):=fun m hm e=>by
    injection e with e
    simp only [aH] at e
    omega
   rcases nX w with rfl|rfl|rfl|rfl|rfl|rfl|rfl|rfl|rfl|rfl|rfl|rfl|h
   ·simp only [zI]
    rw [if_neg (hlen _ (by decide))]
    rfl
   ·simp only [uP]
    rw [if_neg (hlen _ (by decide))]
    rfl
   ·simp only [y8]
    rw [if_neg (hlen _ (by decide))]
    rfl
   ·simp only [oF]
    rw [if_neg (hlen _ (by decide))]
    rfl
   ·simp only [u6]
    rw [if_neg (hlen _ (by decide))]
    rfl
   ·simp only [aDn]
    rw [if_neg (hlen _ (by decide))]
    rfl
   ·simp only [aCO]
    rw [if_neg (hlen _ (by decide))]
    rfl
   ·simp only [aBJ]
    rw [if_neg (hlen _ (by decide))]
    rfl
   ·simp only [mL]
    rw [if_neg (hlen _ (by decide))]
    rfl
   ·simp only [wG]
    rw [if_neg (hlen _ (by decide))]
    rfl
   ·simp only [wJ]
    rw [if_neg (hlen _ (by decide))]
    rfl
   ·simp only [wT]
    rw [if_neg (hlen _ (by decide))]
    rfl
   ·simp only [wV h]
    rw [if_neg (fun e=>by cases e)]
    rfl
end Go.Pe.Tryz
namespace Go.Pe.Tryz
open Go.Proofs.Tryz
def aCw (b:Bool) (n:Int):D:=.st (.cons (.int .i64 n) (.cons (.sl b 4 .nil) (.cons (.int .i64 0) (.cons (.int .i64 0) (.cons (.sl b 1 .nil) .nil)))))
def aJL (n:Int):List D:=if c6 n 0 20000=true then [aCw true n,.bool true] else [aCw true 0,.bool false]
theorem aEZ (n:Int):Fn prog 48 [.int .i64 n] (fun rs=>rs=aJL n):=by
 refine cW aVL [] ?_
 dsimp only [aVL,m48,rF,cS,cE,cR,c8]
 try simp only [wQ]
 try simp only [↓wA,↓wC,wB,cU,cT,bQ,bR,bT,reduceIte,reduceCtorEq,aA,bU,dF]
 refine cJ (aCo n) rfl rfl ?_
 cases h:c6 n 0 20000<;>simp only [↓wA,↓wC,wB,bQ,bR,reduceIte,reduceCtorEq,aA,dF]<;>simp [aJL,aCw,h]
theorem zF (n:Int):Fn prog 46 [.int .i64 n] (fun rs=>rs=aJL n):=by
 refine cW aWn [] ?_
 dsimp only [aWn,m46,rF,cS,cE,cR,c8]
 try simp only [wQ]
 try simp only [↓wA,↓wC,wB,cU,cT,bQ,bR,bT,reduceIte,reduceCtorEq,aA,bU,dF]
 refine cJ (aB7 n) rfl rfl ?_
 cases h:c6 n 0 20000<;>simp only [↓wA,↓wC,wB,bQ,bR,reduceIte,reduceCtorEq,aA,dF]<;>simp [aJL,aCw,h]
theorem jT:decide ((1:Int) < 0)=false:=by decide
def aKt (b:Bool) (n:Int):D:=.st (.cons (aCw b n) (.cons (.st (.cons (.str []) (.cons (.str []) (.cons (.int .i64 0) .nil)))) .nil))
def vS (b:Bool) (n:Int):List D:=if c6 n 0 20000=true then [aKt false n,.bool true] else [aKt b 0,.bool false]
theorem aDa (n:Int):Fn prog 25 [.int .i64 n] (fun rs=>rs=vS false n):=by
 have hO:=aEZ n
 unfold aJL at hO
 refine cW aVn [] ?_
 dsimp only [aVn,m25,rF,cS,cE,cR,c8]
 try simp only [wQ]
 try simp only [↓wA,↓wC,wB,cU,cT,bQ,bR,bT,reduceIte,reduceCtorEq,aA,bU,eR]
 cases h:c6 n 0 20000<;>simp only [h,if_true,if_false,aP,aCw] at hO<;>replace hO:=fH hO<;>simp only [aX,bP,D.unown] at hO
 ·refine cJ hO rfl rfl ?_
  simp only [↓wA,↓wC,wB,bQ,bR,reduceIte,reduceCtorEq,eR]
  simp [vS,aKt,aCw,h]
 ·refine cJ hO rfl rfl ?_
  simp only [↓wA,↓wC,wB,bQ,bR,reduceIte,reduceCtorEq,eR]
  simp [vS,aKt,aCw,h]
theorem yN (n:Int):Fn prog 22 [.int .i64 n] (fun rs=>rs=vS true n):=by
 have hO:=zF n
 unfold aJL at hO
 refine cW aVJ [] ?_
 dsimp only [aVJ,m22,rF,cS,cE,cR,c8]
 try simp only [wQ]
 try simp only [↓wA,↓wC,wB,cU,cT,bQ,bR,bT,reduceIte,reduceCtorEq,aA,bU,eR]
 cases h:c6 n 0 20000<;>simp only [h,if_true,if_false,aP,aCw] at hO<;>replace hO:=fH hO<;>simp only [aX,bP,D.unown] at hO
 ·refine cJ hO rfl rfl ?_
  simp only [↓wA,↓wC,wB,bQ,bR,reduceIte,reduceCtorEq,aA,eR]
  simp [vS,aKt,aCw,h]
 ·refine cJ hO rfl rfl ?_
  simp only [↓wA,↓wC,wB,bQ,bR,reduceIte,reduceCtorEq,eR]
  simp [vS,aKt,aCw,h]
end Go.Pe.Tryz
namespace Go.Pe.Tryz
open Go.Proofs.Tryz Go.Sort
theorem xM:∀ (l:List UInt8) (acc:Nat),l.all lF=true->∃ m:Nat,Lib.decFrom acc l=some m/\(m:Int)=l.foldl (fun n b=>10 * n + ((b.toNat:Int) - 48)) (acc:Int)
 | [],acc,_=>⟨acc,rfl,rfl⟩
 | b :: r,acc,h=>by
  simp only [List.all_cons,aF] at h
  have hb:=h.1
  simp only [lF,aF,decide_eq_true_eq] at hb
  obtain ⟨m,h1,h2⟩:=xM r (acc * 10 + (b.toNat - 48)) h.2
  refine ⟨m,?_,?_⟩
  ·simp only [Lib.decFrom,Lib.digitVal,if_pos hb]; exact h1
  ·rw [h2,List.foldl_cons]
   congr 1; omega
theorem aCK (u:Nat):Lib.decNat (Lib.decDigits u)=some u:=by
 obtain ⟨m,h1,h2⟩:=xM (Lib.decDigits u) 0 (aEw u)
 have h3:=aB1 u
 unfold s9 at h3
 have:m=u:=by
  have h4:(m:Int)=(u:Int):=h2.trans h3
  omega
 unfold Lib.decNat
 rw [if_neg (by simpa using l6 u),h1,this]
theorem zW {n:Int} (h0:-999999<=n) (h1:n<=999999):Lib.atoiAll (Lib.itoa n)=.ok n:=by
 by_cases hn:0<=n
 ·obtain ⟨u,rfl⟩:=a6 hn
  have hl:=xC 5 u (by omega)
  rw [xD,Lib.atoiAll_short _ (by omega)]
  have hd:=aCK u
  have hb:=kW u
  cases hu:Lib.decDigits u with
  | nil=>exact absurd hu (l6 u)
  | cons b r =>
   rw [hu] at hd hb
   have:=hb b aW
   have e1:(b == 45)=false:=beq_eq_false_iff_ne.2 fun e=>by rw [e] at this; exact absurd this.1 (by decide)
   have e2:(b == 43)=false:=beq_eq_false_iff_ne.2 fun e=>by rw [e] at this; exact absurd this.1 (by decide)
   simp only [Lib.atoi,e1,e2,hd]
   rfl
 ·obtain ⟨u,rfl⟩:∃ u:Nat,n=-(u:Int):=⟨n.natAbs,by omega⟩
  have hl:=xC 5 u (by omega)
  rw [yP u (by omega),Lib.atoiAll_short _ (by simp; omega)]
  simp only [Lib.atoi,aCK u]
  rfl
theorem aKr (s:List UInt8) (v:Int) (hl:s.length<=1000000000) (h:Lib.atoiAll s=.ok v):Fn prog 105 [.str s] (fun rs=>rs=[.int .i64 v,.err true]):=by
 intro M vs w hM hG hv
 obtain ⟨cs,us,f1,f2,rfl,hf,⟨rfl,rfl⟩,rfl,rfl⟩:=hv
 refine Calls.mono (Go.Proofs.Tryz.strconv_Atoi_ok ⟨s.toArray⟩ (by show s.toArray.size<=_; simp; omega) v (by simpa using h) w) ?_
 rintro e w' ⟨rfl,hw⟩
 refine ⟨_,[.int .i64 v,.nilIface],[],rfl,rfl,⟨[.int .i64 v],[.nilIface],[],[],rfl,rfl,⟨rfl,rfl⟩,[.nilIface],[],[],[],rfl,rfl,⟨rfl,rfl⟩,rfl,rfl⟩,a8,(fun b hb=>by cases hb),?_⟩
 rcases hw with rfl|⟨t,rfl⟩
 ·exact kN.refl _
 ·exact Lib.bytesWorld_below w _ t
theorem aIe (s:List UInt8) (hl:s.length<=1000000000) (h:∀ v,Lib.atoiAll s≠.ok v):Fn prog 105 [.str s] (fun rs=>∃ v,rs=[.int .i64 v,.err false]):=by
 intro M vs w hM hG hv
 obtain ⟨cs,us,f1,f2,rfl,hf,⟨rfl,rfl⟩,rfl,rfl⟩:=hv
 have hs:(⟨s.toArray⟩:ByteArray).size<=281474976710656:=by show s.toArray.size<=_; simp; omega
 have out:∀ (n:Int) (t:TypeId) (v:Value) (w':World),eM w' (fun b=>M b\/b∈([]:List Nat)) [.int .i64 n,.err false] [.int .i64 n,.iface t v] []:=fun n t v w' =>
  ⟨[.int .i64 n],[.iface t v],[],[],rfl,rfl,⟨rfl,rfl⟩,[.iface t v],[],[],[],rfl,rfl,⟨rfl,t,v,rfl⟩,rfl,rfl⟩
 cases ha:Lib.atoiAll s
 ·exact absurd ha (h _)
 ·obtain ⟨t,p,hv⟩:=aVw hG.fact
  refine Calls.mono (Go.Proofs.Tryz.strconv_Atoi_syntax_var ⟨s.toArray⟩ hs (ha.trans rfl) t p w hv) ?_
  rintro e w' ⟨N,rfl,_,_,hB⟩
  exact ⟨_,_,[],rfl,⟨_,rfl⟩,out _ _ _ w',a8,(fun b hb=>by cases hb),hB⟩
 ·obtain ⟨t,p,hv⟩:=aUB hG.fact
  refine Calls.mono (Go.Proofs.Tryz.strconv_Atoi_range_var ⟨s.toArray⟩ hs (by simpa using ha) t p w hv) ?_
  rintro e w' ⟨N,rfl,_,_,hB⟩
  exact ⟨_,_,[],rfl,⟨_,rfl⟩,out _ _ _ w',a8,(fun b hb=>by cases hb),hB⟩
theorem aGH (s:List UInt8) (hl:s.length<=1000000000):Fn prog 70 [.str s] (fun rs=>rs=rdR s):=by
 by_cases hx:∃ v,Lib.atoiAll s=.ok v
 ·obtain ⟨v,ha⟩:=hx
  have hA:=aKr s v hl ha
  have hb:=Lib.atoiAll_bounds ha
  have hW:=eT v (-999999) 999999
  cases hw:c6 v (-999999) 999999 with
  | false =>
   have e:jN s=none:=by
    cases hr:jN s with
    | none=>rfl
    | some n =>
     obtain ⟨h1,h2,h3⟩:=sG hr
     rw [<- h1,zW h2 h3] at ha
     injection ha with ha
     subst ha
     rw [iY h2 h3] at hw; cases hw
   unfold rdR
   rw [e]
   rw [hw] at hW
   refine cW aGy [] ?_
   dsimp only [aGy,m70,rF,cS,cE,cR,c8]
   try simp only [wQ]
   repeat' (first|(simp only [cK,↓wA,↓wC,wB,bQ,reduceIte,reduceCtorEq])|(refine cJ (hA) rfl rfl ?_)|(refine cL (hA) rfl rfl ?_)|(refine cJ (hW) rfl rfl ?_)|(refine cL (hW) rfl rfl ?_)|((first|apply cH|apply cI|apply cG)<;>intro h<;>try simp only [h]))
  | true =>
   have hwi:=jW.1 hw
   have hD:=eZ v (by simp only [dX]; omega)
   rw [hw] at hW
   by_cases hs:Lib.itoa v=s
   ·have e:jN s=some v:=by rw [<- hs]; exact aHs hwi.1 hwi.2
    have hd:decide (Lib.itoa v=s)=true:=decide_eq_true hs
    unfold rdR
    rw [e]
    refine cW aGy [] ?_
    dsimp only [aGy,m70,rF,cS,cE,cR,c8]
    try simp only [wQ]
    repeat' (first|(simp only [cK,hd,↓wA,↓wC,wB,bQ,reduceIte,reduceCtorEq])|(refine cJ (hA) rfl rfl ?_)|(refine cL (hA) rfl rfl ?_)|(refine cJ (hW) rfl rfl ?_)|(refine cL (hW) rfl rfl ?_)|(refine cJ (hD) rfl rfl ?_)|(refine cL (hD) rfl rfl ?_)|((first|apply cH|apply cI|apply cG)<;>intro h<;>try simp only [h]))
   ·have e:jN s=none:=by
     cases hr:jN s with
     | none=>rfl
     | some n =>
      obtain ⟨h1,h2,h3⟩:=sG hr
      rw [<- h1,zW h2 h3] at ha
      injection ha with ha
      subst ha
      exact absurd h1 hs
    have hd:decide (Lib.itoa v=s)=false:=decide_eq_false hs
    unfold rdR
    rw [e]
    refine cW aGy [] ?_
    dsimp only [aGy,m70,rF,cS,cE,cR,c8]
    try simp only [wQ]
    repeat' (first|(simp only [cK,hd,↓wA,↓wC,wB,bQ,reduceIte,reduceCtorEq])|(refine cJ (hA) rfl rfl ?_)|(refine cL (hA) rfl rfl ?_)|(refine cJ (hW) rfl rfl ?_)|(refine cL (hW) rfl rfl ?_)|(refine cJ (hD) rfl rfl ?_)|(refine cL (hD) rfl rfl ?_)|((first|apply cH|apply cI|apply cG)<;>intro h<;>try simp only [h]))
 ·have hA:=aIe s hl (fun v e=>hx ⟨v,e⟩)
  have e:jN s=none:=by
   cases hr:jN s with
   | none=>rfl
   | some n =>
    obtain ⟨h1,h2,h3⟩:=sG hr
    exact absurd ⟨n,by rw [<- h1]; exact zW h2 h3⟩ hx
  unfold rdR
  rw [e]
  refine cW aGy [] ?_
  dsimp only [aGy,m70,rF,cS,cE,cR,c8]
  try simp only [wQ]
  repeat' (first|(simp only [cK,↓wA,↓wC,wB,bQ,reduceIte,reduceCtorEq])|((first|apply cH|apply cI|apply cG)<;>intro h<;>try simp only [h]))
  refine aCd hA rfl fun rs h=>?_
  obtain ⟨v,rfl⟩:=h
  refine ⟨.inl rfl,?_⟩
  repeat' (first|(simp only [cK,↓wA,↓wC,wB,bQ,reduceIte,reduceCtorEq])|((first|apply cH|apply cI|apply cG)<;>intro h<;>try simp only [h]))
theorem aAI (s:List UInt8) (hl:s.length<=100000000):Fn prog 56 [.str s] (fun rs=>rs=rdR s):=by
 have hR:=aJS s hl
 have e:∃ n b,rdR s=[.int .i64 n,.bool b]:=by
  unfold rdR
  split<;>exact ⟨_,_,rfl⟩
 obtain ⟨n,b,e⟩:=e
 rw [e] at hR ⊢
 refine cW aV2 [] ?_
 dsimp only [aV2,m56,rF,cS,cE,cR,c8]
 try simp only [wQ]
 repeat' (first|(simp only [↓wA,↓wC,wB,bQ,reduceIte,reduceCtorEq])|(refine cJ (hR) rfl rfl ?_)|(refine cL (hR) rfl rfl ?_)|((first|apply cH|apply cI|apply cG)<;>intro h<;>try simp only [h]))
theorem aKx {x:UInt8} {s w:List UInt8} (h:parts x s=[w]):w=s:=by
 have h1:x ∉ s:=(aD0 x s).1 (by rw [h]; exact Nat.lt_succ_self 1)
 rw [aCP h1] at h
 injection h with h _
 exact h.symm
theorem aF7 (x:UInt8) (s:List UInt8):∀ w∈parts x s,w.length<=s.length:=by
 intro w hw
 unfold parts at hw
 rcases aS.1 hw with hw|hw
 ·have:∀ i,∀ u∈(yZ x s i).1,u.length<=s.length:=by
   intro i
   induction i with
   | zero=>intro u hu; simp [yZ] at hu
   | succ i ih =>
    intro u hu
    simp only [yZ] at hu
    split at hu
    ·split at hu
     ·rcases aS.1 hu with hu|hu
      ·exact ih u hu
      ·rw [aO.1 hu,aZ,aR]; omega
     ·exact ih u hu
    ·exact ih u hu
  exact this _ w hw
 ·rw [aO.1 hw,aZ]; omega
theorem aFn (x:UInt8):∀ (k:Nat) (s:ByteArray),Lib.countB s ⟨#[x]⟩=k->(Lib.splitB ⟨#[x]⟩ 0 k s).map (·.data.toList)=parts x s.data.toList:=by
 intro k
 induction k with
 | zero =>
  intro s hk
  rcases Lib.indexB_cases s ⟨#[x]⟩ with h|⟨i,h,hle⟩
  ·have h':Lib.indexByte s.data.toList x=-1:=by rw [<- Lib.index_one]; exact h
   have hx:x ∉ s.data.toList:=fun hm=>by
    obtain ⟨j,hj⟩:=List.getElem?_of_mem hm
    exact Lib.indexByte_none h' j hj
   rw [aCP hx]; rfl
  ·rw [Lib.countB_hit s ⟨#[x]⟩ i (aG 1) h] at hk; omega
 | succ k ih =>
  intro s hk
  rcases Lib.indexB_cases s ⟨#[x]⟩ with h|⟨i,h,hle⟩
  ·rw [Lib.countB_miss _ _ h] at hk; omega
  ·have hc:=Lib.countB_hit s ⟨#[x]⟩ i (aG 1) h
   have h':Lib.indexByte s.data.toList x=(i:Int):=by rw [<- Lib.index_one]; exact h
   obtain ⟨h1,h2⟩:=Lib.indexByte_some h'
   have hi:=cQ h1
   have hsz:s.data.toList.length=s.size:=by rw [Array.length_toList]; rfl
   have e1:(s.extract 0 (i + 0)).data.toList=s.data.toList.take i:=by
    simp only [ByteArray.data_extract,Array.toList_extract,aY,bL,Nat.sub_zero,bG]
   have e2:(s.extract (i + (⟨#[x]⟩:ByteArray).size) s.size).data.toList=s.data.toList.drop (i + 1):=by
    simp only [ByteArray.data_extract,Array.toList_extract,aY]
    rw [aN (by rw [aZ,hsz]; exact aG _)]; rfl
   have e3:s.data.toList=s.data.toList.take i ++ x :: s.data.toList.drop (i + 1):=by
    rw [List.getElem?_eq_getElem hi] at h1
    injection h1 with h1
    have e4:x :: s.data.toList.drop (i + 1)=s.data.toList.drop i:=by rw [List.drop_eq_getElem_cons hi,h1]
    rw [e4,List.take_append_drop]
   have hx:x ∉ s.data.toList.take i:=fun hm=>by
    obtain ⟨j,hj⟩:=List.getElem?_of_mem hm
    rw [List.getElem?_take] at hj
    split at hj
    ·exact h2 j (by assumption) hj
    ·cases hj
   rw [Lib.splitB_hit _ _ _ _ i h,aX,e1,ih _ (by omega),e2]
   conv=>rhs; rw [e3]
   rw [w6 hx]
theorem aJh {w:World} {M:Nat->Prop}:∀ L:List (List UInt8),(dl D.str L).rep w M (L.map fun s=>Value.string ⟨s.toArray⟩) []
 | []=>⟨rfl,rfl⟩
 | s :: L=>⟨[_],_,[],[],rfl,rfl,⟨rfl,rfl⟩,aJh L⟩
theorem aMJ (s:List UInt8) (x:UInt8) (hl:s.length<=1000000000):Fn prog 38 [.str s,.str [x]] (fun rs=>rs=[.sl true 1 (dl D.str (parts x s))]):=by
 intro M vs w hM hG hv
 obtain ⟨cs,us,f1,f2,rfl,hf,⟨rfl,rfl⟩,cs2,us2,f3,f4,rfl,hf2,⟨rfl,rfl⟩,rfl,rfl⟩:=hv
 obtain ⟨m,hm⟩:=aRd hG.fact
 refine Calls.mono (Go.Proofs.Tryz.strings_Split ⟨s.toArray⟩ ⟨#[x]⟩ m w (by show s.toArray.size < _; simp; omega) hm (aG 1)) ?_
 rintro e w' ⟨rfl,rfl⟩
 have key:=aFn x _ ⟨s.toArray⟩ rfl
 have hlen:Lib.countB ⟨s.toArray⟩ ⟨#[x]⟩ + 1=(parts x s).length:=by
  have h1:=Lib.splitB_all ⟨#[x]⟩ (aG 1) 0 _ ⟨s.toArray⟩ rfl
  rw [<- h1,<-a7 (f:=fun b:ByteArray=>b.data.toList),key]
 have hval:(Lib.splitB ⟨#[x]⟩ 0 (Lib.countB ⟨s.toArray⟩ ⟨#[x]⟩) ⟨s.toArray⟩).map Value.string=(parts x s).map fun s=>Value.string ⟨s.toArray⟩:=by
  have e:parts x s=parts x (⟨s.toArray⟩:ByteArray).data.toList:=by simp
  rw [e,<-key,List.map_map]
  exact List.map_congr_left fun b _=>by simp
 rw [hlen,hval]
 refine ⟨_,_,[w.heap.size],rfl,rfl,⟨[_],[],[w.heap.size],[],rfl,rfl,⟨?_,some ⟨w.heap.size,0,none⟩,(parts x s).length,(parts x s).map fun s=>Value.string ⟨s.toArray⟩,[],?_,?_,aJh (parts x s),?_⟩,rfl,rfl⟩,by simp,?_,?_⟩
 ·exact (iJ _).2 fun y hy=>by
   obtain ⟨z,_,rfl⟩:=aT.1 hy
   rfl
 ·rw [cP]
 ·rw [cP]; exact aG _
 ·refine .inr ⟨w.heap.size,rfl,⟨⟨_,_,gW.new w _ _,by simp,?_⟩,fun h=>absurd rfl h⟩,rfl⟩
  simp only []
  exact aN (aG _)
 ·intro b hb
  rw [aO.1 hb]; exact aG _
 ·exact ⟨rfl,rfl,rfl,by show w.heap.size<=(w.heap.push _).size; simp,fun b hb=>(Go.MapKept.heap_alloc w _).2 b hb⟩
theorem aJ5 (sep:List UInt8):∀ (L:List (List UInt8)) (x:List UInt8),L≠[]->Lib.join (L ++ [x]) sep=Lib.join L sep ++ (sep ++ x)
 | [],x,h=>absurd rfl h
 | a :: r,x,_=>by
  have h1:Lib.joinTail sep (r ++ [x])=Lib.joinTail sep r ++ (sep ++ x):=by simp [Lib.joinTail]
  simp only [aQ,Lib.join_cons,h1,bC]
theorem aKp (v:List Int) (h:∀ n∈v,dX .i64 n):(Lib.join (v.map Lib.itoa) [32]).length<=22 * v.length:=by
 cases v with
 | nil=>simp [Lib.join]
 | cons a r =>
  have h1:=rP [32] 21 (r.map Lib.itoa) (fun x hx=>by
   obtain ⟨n,hn,rfl⟩:=aT.1 hx
   exact eL n (h n (List.mem_cons_of_mem _ hn)))
  have h2:=eL a (h a aW)
  simp only [aX,Lib.join_cons,aV,aH,a7,aC] at h1 ⊢
  omega
def zA (v:List Int):Prop:=v.length<=1000/\∀ n∈v,0<=n/\dX .i64 n
theorem nI (v:List Int) (h:zA v):Fn prog 109 [.sl false 1 (dl iD v)] (fun rs=>rs=[.str (lV v)]):=by
 have hl:=h.1
 have hJ:=aAl v [32] (fun n hn=>(h.2 n hn).2) hl (by decide)
 unfold lV
 by_cases h0:v=[]
 ·have hd:decide ((v.length:Int)=0)=true:=by rw [h0]; rfl
  rw [if_pos h0]
  refine cW aIX [] ?_
  dsimp only [aIX,aSL,rF,cS,cE,cR,c8]
  try simp only [wQ]
  repeat' (first|(simp only [cK,cP,hd,↓wA,↓wC,wB,bQ,reduceIte,reduceCtorEq])|((first|apply cH|apply cI|apply cG)<;>intro h<;>try simp only [h]))
 ·have:=aJ.2 h0
  have hd:decide ((v.length:Int)=0)=false:=decide_eq_false (by omega)
  rw [if_neg h0]
  refine cW aIX [] ?_
  dsimp only [aIX,aSL,rF,cS,cE,cR,c8]
  try simp only [wQ]
  repeat' (first|(simp only [cK,cP,hd,↓wA,↓wC,wB,bQ,reduceIte,reduceCtorEq])|(refine cJ hJ (by simp [dA,dK]) rfl ?_)|(refine cL hJ (by simp [dA,dK,D.unown,dS]) rfl ?_)|((first|apply cH|apply cI|apply cG)<;>intro h<;>try simp only [h]))
theorem o6 (v:List Int) (b:Bool) (h:zA v):Fn prog 91 [.sl false 1 (dl iD v),.bool b] (fun rs=>rs=[.str (if b then lV v else qm)]):=by
 have hl:=h.1
 unfold lV
 cases b with
 | false =>
  refine cW aKY [] ?_
  dsimp only [aKY,m91,rF,cS,cE,cR,c8]
  try simp only [wQ]
  repeat' (first|(simp only [cK,↓wA,↓wC,wB,bQ,bR,reduceIte,reduceCtorEq])|((first|apply cH|apply cI|apply cG)<;>intro h<;>try simp only [h]))
  all_goals rfl
 | true =>
  by_cases h0:v=[]
  ·have hd:decide ((v.length:Int)=0)=true:=by rw [h0]; rfl
   rw [if_pos h0,if_pos rfl]
   refine cW aKY [] ?_
   dsimp only [aKY,m91,rF,cS,cE,cR,c8]
   try simp only [wQ]
   repeat' (first|(simp only [cK,cP,hd,↓wA,↓wC,wB,bQ,bR,reduceIte,reduceCtorEq])|((first|apply cH|apply cI|apply cG)<;>intro h<;>try simp only [h]))
  ·have hp:=aJ.2 h0
   have hd0:decide ((v.length:Int)=0)=false:=decide_eq_false (by omega)
   obtain ⟨a,ha⟩:=dW hp
   have hA:=fI a (h.2 a (aD ha)).1 (h.2 a (aD ha)).2
   have e0:Lib.itoa a=Lib.join ((v.take 1).map Lib.itoa) [32]:=by
    cases v with
    | nil=>exact absurd rfl h0
    | cons x r=>injection ha with ha; subst ha; simp [Lib.join_one]
   rw [if_neg h0,if_pos rfl]
   refine cW aKY [] ?_
   dsimp only [aKY,m91,rF,cS,cE,cR,c8]
   try simp only [wQ]
   repeat' (first|(simp only [cK,cP,dC,hd0,ha,aE,Int.toNat_zero,iD,↓wA,↓wC,wB,bQ,bR,reduceIte,reduceCtorEq])|(refine cJ (hA) rfl rfl ?_)|(refine cL (hA) rfl rfl ?_)|(with_reducible refine cO ?_ ?_; focus omega)|((first|apply cH|apply cI|apply cG)<;>intro h<;>try simp only [h]))
   refine eK (fun i:Nat=>⟨[(0,.d (.sl false 1 (dl iD v))),(5,.d (.str (Lib.join ((v.take i).map Lib.itoa) [32]))),(6,.d (.int .i64 (i:Int)))],[]⟩) (fun i=>1<=i/\i<=v.length) (fun i=>v.length - i) 1 (by rw [<- e0]; exact (cV _ rfl ⟨⟨rfl,rfl⟩,⟨rfl,rfl⟩,⟨rfl,rfl⟩,trivial⟩)) ⟨aG _,hp⟩ ?_
   rintro i ⟨h1,h2⟩
   by_cases hi:i < v.length
   ·have hd:decide ((i:Int) < (v.length:Int))=true:=decide_eq_true (by omega)
    obtain ⟨n,hn⟩:=dW hi
    have hN:=fI n (h.2 n (aD hn)).1 (h.2 n (aD hn)).2
    have hj:=aKp (v.take i) (fun n hn=>(h.2 n (bA hn)).2)
    have hk:=eL n (h.2 n (aD hn)).2
    rw [aR,Nat.min_eq_left (by omega)] at hj
    have ej:Lib.join ((v.take (i + 1)).map Lib.itoa) [32]=Lib.join ((v.take i).map Lib.itoa) [32] ++ (32 :: Lib.itoa n):=by
     rw [fG hn,List.map_append]
     exact aJ5 [32] _ _ fun e=>by
      have:=congrArg List.length e
      simp only [a7,aR,aC] at this
      omega
    repeat' (first|(simp only [cK,cP,dC,hd,hn,aE,aB,iD,↓wA,↓wC,wB,bQ,reduceIte,reduceCtorEq])|(refine cJ (hN) rfl rfl ?_)|(refine cL (hN) rfl rfl ?_)|(with_reducible refine cO ?_ ?_; focus ((try simp only [aV,aH,aC]); omega))|(with_reducible refine cM ?_ ?_; focus (simp only [dX]; omega))|((first|apply cH|apply cI|apply cG)<;>intro h<;>try simp only [h]))
    all_goals
     refine ⟨i + 1,?_,⟨by omega,by omega⟩,by omega⟩
     rw [ej]
     (try simp only [bC,aQ,bD])
     exact (cV _ rfl ⟨⟨rfl,rfl⟩,⟨rfl,rfl⟩,⟨rfl,rfl⟩,trivial⟩)
   ·have hd:decide ((i:Int) < (v.length:Int))=false:=decide_eq_false (by omega)
    have ht:v.take i=v:=aN (by omega)
    repeat' (first|(simp only [cP,hd,ht,↓wA,↓wC,wB,bQ,reduceIte,reduceCtorEq])|((first|apply cH|apply cI|apply cG)<;>intro h<;>try simp only [h]))
theorem aCB (o:Off) (id:Int) (ho:o.ok0):Fn prog 95 [o.s,.int .i64 id] (fun rs=>rs=[.str (aBz o id)]):=by
 have hC:=aAM o id ho
 unfold aBz jI
 unfold aB0 at hC
 by_cases h1:dN o=true
 ·rw [if_pos h1] at hC
  by_cases h2:0<=fN o.cs id
  ·rw [if_pos h2] at hC
   rw [if_pos ⟨h1,h2⟩]
   refine cW aJ7 [] ?_
   dsimp only [aJ7,m95,rF,cS,cE,cR,c8]
   try simp only [wQ]
   repeat' (first|(simp only [aXW,aXX,↓dL,cK,↓wA,↓wC,wB,bQ,bR,reduceIte,reduceCtorEq])|(refine cJ hC (by simp [dA,dK]) rfl ?_)|((first|apply cH|apply cI|apply cG)<;>intro h<;>try simp only [h]))
   all_goals rfl
  ·rw [if_neg h2] at hC
   rw [if_neg (fun h=>h2 h.2)]
   refine cW aJ7 [] ?_
   dsimp only [aJ7,m95,rF,cS,cE,cR,c8]
   try simp only [wQ]
   repeat' (first|(simp only [aXW,aXX,↓dL,cK,↓wA,↓wC,wB,bQ,bR,reduceIte,reduceCtorEq])|(refine cJ hC (by simp [dA,dK]) rfl ?_)|((first|apply cH|apply cI|apply cG)<;>intro h<;>try simp only [h]))
   all_goals rfl
 ·rw [if_neg h1] at hC
  rw [if_neg (fun h=>h1 h.1)]
  refine cW aJ7 [] ?_
  dsimp only [aJ7,m95,rF,cS,cE,cR,c8]
  try simp only [wQ]
  repeat' (first|(simp only [aXW,aXX,↓dL,cK,↓wA,↓wC,wB,bQ,bR,reduceIte,reduceCtorEq])|(refine cJ hC (by simp [dA,dK]) rfl ?_)|((first|apply cH|apply cI|apply cG)<;>intro h<;>try simp only [h]))
  all_goals rfl
def wIx (w:List UInt8):Nat:=if w=mC then 0 else if w=jJ then 1 else if w=m4 then 2 else if w=fZ then 3 else if w=j4 then 4 else if w=s7 then 5 else if w=uE then 6 else if w=uD then 7 else if w=f8 then 8 else if w=nB then 9 else if w=nG then 10 else if w=nP then 11 else 12
theorem wI (w:List UInt8) (k:Nat) (h:wIx w=k):decide (w=mC)=(k == 0)/\decide (w=jJ)=(k == 1)/\decide (w=m4)=(k == 2)/\decide (w=fZ)=(k == 3)/\decide (w=j4)=(k == 4)/\decide (w=s7)=(k == 5)/\decide (w=uE)=(k == 6)/\decide (w=uD)=(k == 7)/\decide (w=f8)=(k == 8)/\decide (w=nB)=(k == 9)/\decide (w=nG)=(k == 10)/\decide (w=nP)=(k == 11):=by
 subst h
 rcases nX w with rfl|rfl|rfl|rfl|rfl|rfl|rfl|rfl|rfl|rfl|rfl|rfl|⟨h0,h1,h2,h3,h4,h5,h6,h7,h8,h9,jT,h11⟩
 all_goals first|exact ⟨rfl,rfl,rfl,rfl,rfl,rfl,rfl,rfl,rfl,rfl,rfl,rfl⟩|skip
 have e:wIx w=12:=by unfold wIx; rw [if_neg h0,if_neg h1,if_neg h2,if_neg h3,if_neg h4,if_neg h5,if_neg h6,if_neg h7,if_neg h8,if_neg h9,if_neg jT,if_neg h11]
 rw [e]
 exact ⟨decide_eq_false h0,decide_eq_false h1,decide_eq_false h2,decide_eq_false h3,decide_eq_false h4,decide_eq_false h5,decide_eq_false h6,decide_eq_false h7,decide_eq_false h8,decide_eq_false h9,decide_eq_false jT,decide_eq_false h11⟩
def aSD (s:Option Stp):List D:=match s with
 | some s=>[jD s.k s.i s.a s.v,.bool true]
 | none=>[jD 0 0 0 0,.bool false]
theorem aHQ (w:List UInt8) (n:List Int) (h:lkp pV w=some (n.length:Int)):Fn prog 71 [.str w,.sl false 1 (dl iD n)] (fun rs=>rs=aSD (lC w n)):=by
 have hl:∀ {v:List UInt8} {m:Int},w=v->lkp pV v=some m->(n.length:Int)=m:=fun e hm=>by
  rw [e,hm] at h
  injection h with h
  exact h.symm
 rcases nX w with hw|hw|hw|hw|hw|hw|hw|hw|hw|hw|hw|hw|hw
 ·have hI:=wI w 0 (by subst hw; rfl)
  have hn:=hl hw zI
  rw [(congrArg (lC · n) hw).trans (aSe n)]
  obtain ⟨a,rfl⟩:∃ a,n=[a]:=by
   match n,hn with
   | [a],_=>exact ⟨a,rfl⟩
  refine cW nU [] ?_
  dsimp only [nU,m71,rF,cS,cE,cR,c8]
  try simp only [wQ]
  repeat' (first|(simp only [hI,cK,dC,List.getElem?_cons_zero,aC,aE,aM,iD,↓wA,↓wC,wB,bQ,bR,reduceIte,reduceCtorEq,aAO])|(refine dJ ?_)|(with_reducible refine cO ?_ ?_; focus omega)|((first|apply cH|apply cI|apply cG)<;>intro h<;>try simp only [h]))
  all_goals rfl
 ·have hI:=wI w 1 (by subst hw; rfl)
  have hn:=hl hw uP
  rw [(congrArg (lC · n) hw).trans (aJr n)]
  obtain ⟨a,b,c,rfl⟩:∃ a b c,n=[a,b,c]:=by
   match n,hn with
   | [a,b,c],_=>exact ⟨a,b,c,rfl⟩
  refine cW nU [] ?_
  dsimp only [nU,m71,rF,cS,cE,cR,c8]
  try simp only [wQ]
  repeat' (first|(simp only [hI,cK,dC,List.getElem?_cons_zero,List.getElem?_cons_succ,aC,aE,aM,iD,↓wA,↓wC,wB,bQ,bR,reduceIte,reduceCtorEq,aA,aAO])|(refine dJ ?_)|(with_reducible refine cO ?_ ?_; focus omega)|((first|apply cH|apply cI|apply cG)<;>intro h<;>try simp only [h]))
  all_goals rfl
 ·have hI:=wI w 2 (by subst hw; rfl)
  have hn:=hl hw y8
  rw [(congrArg (lC · n) hw).trans (aL4 n)]
  obtain ⟨a,b,rfl⟩:∃ a b,n=[a,b]:=by
   match n,hn with
   | [a,b],_=>exact ⟨a,b,rfl⟩
  refine cW nU [] ?_
  dsimp only [nU,m71,rF,cS,cE,cR,c8]
  try simp only [wQ]
  repeat' (first|(simp only [hI,cK,dC,List.getElem?_cons_zero,List.getElem?_cons_succ,aC,aE,aM,iD,↓wA,↓wC,wB,bQ,bR,reduceIte,reduceCtorEq,aA,aAO])|(refine dJ ?_)|(with_reducible refine cO ?_ ?_; focus omega)|((first|apply cH|apply cI|apply cG)<;>intro h<;>try simp only [h]))
  all_goals rfl
 ·have hI:=wI w 3 (by subst hw; rfl)
  have hn:=hl hw oF
  rw [(congrArg (lC · n) hw).trans (aDU n)]
  obtain ⟨a,rfl⟩:∃ a,n=[a]:=by
   match n,hn with
   | [a],_=>exact ⟨a,rfl⟩
  refine cW nU [] ?_
  dsimp only [nU,m71,rF,cS,cE,cR,c8]
  try simp only [wQ]
  repeat' (first|(simp only [hI,cK,dC,List.getElem?_cons_zero,aC,aE,aM,iD,↓wA,↓wC,wB,bQ,bR,reduceIte,reduceCtorEq,aA,aAO])|(refine dJ ?_)|(with_reducible refine cO ?_ ?_; focus omega)|((first|apply cH|apply cI|apply cG)<;>intro h<;>try simp only [h]))
  all_goals rfl
 ·have hI:=wI w 4 (by subst hw; rfl)
  have hn:=hl hw u6
  rw [(congrArg (lC · n) hw).trans (aJw n)]
  obtain ⟨a,b,rfl⟩:∃ a b,n=[a,b]:=by
   match n,hn with
   | [a,b],_=>exact ⟨a,b,rfl⟩
  refine cW nU [] ?_
  dsimp only [nU,m71,rF,cS,cE,cR,c8]
  try simp only [wQ]
  repeat' (first|(simp only [hI,cK,dC,List.getElem?_cons_zero,List.getElem?_cons_succ,aC,aE,aM,iD,↓wA,↓wC,wB,bQ,bR,reduceIte,reduceCtorEq,aA,aAO])|(refine dJ ?_)|(with_reducible refine cO ?_ ?_; focus omega)|((first|apply cH|apply cI|apply cG)<;>intro h<;>try simp only [h]))
  all_goals rfl
 ·have hI:=wI w 5 (by subst hw; rfl)
  have hn:=hl hw aDn
  rw [(congrArg (lC · n) hw).trans (aVC n)]
  obtain ⟨a,rfl⟩:∃ a,n=[a]:=by
   match n,hn with
   | [a],_=>exact ⟨a,rfl⟩
  refine cW nU [] ?_
  dsimp only [nU,m71,rF,cS,cE,cR,c8]
  try simp only [wQ]
  repeat' (first|(simp only [hI,cK,dC,List.getElem?_cons_zero,aC,aE,aM,iD,↓wA,↓wC,wB,bQ,bR,reduceIte,reduceCtorEq,aA,aAO])|(refine dJ ?_)|(with_reducible refine cO ?_ ?_; focus omega)|((first|apply cH|apply cI|apply cG)<;>intro h<;>try simp only [h]))
  all_goals rfl
 ·have hI:=wI w 6 (by subst hw; rfl)
  have hn:=hl hw aCO
  rw [(congrArg (lC · n) hw).trans (aLh n)]
  refine cW nU [] ?_
  dsimp only [nU,m71,rF,cS,cE,cR,c8]
  try simp only [wQ]
  repeat' (first|(simp only [hI,cK,List.getElem?_cons_zero,aC,↓wA,↓wC,wB,bQ,bR,reduceIte,reduceCtorEq,aA,aAO])|(refine dJ ?_)|(with_reducible refine cO ?_ ?_; focus omega)|((first|apply cH|apply cI|apply cG)<;>intro h<;>try simp only [h]))
  all_goals rfl
 ·have hI:=wI w 7 (by subst hw; rfl)
  have hn:=hl hw aBJ
  rw [(congrArg (lC · n) hw).trans (aLn n)]
  refine cW nU [] ?_
  dsimp only [nU,m71,rF,cS,cE,cR,c8]
  try simp only [wQ]
  repeat' (first|(simp only [hI,cK,List.getElem?_cons_zero,aC,↓wA,↓wC,wB,bQ,bR,reduceIte,reduceCtorEq,aA,aAO])|(refine dJ ?_)|(with_reducible refine cO ?_ ?_; focus omega)|((first|apply cH|apply cI|apply cG)<;>intro h<;>try simp only [h]))
  all_goals rfl
 ·have hI:=wI w 8 (by subst hw; rfl)
  have hn:=hl hw mL
  rw [(congrArg (lC · n) hw).trans (zP n)]
  refine cW nU [] ?_
  dsimp only [nU,m71,rF,cS,cE,cR,c8]
  try simp only [wQ]
  repeat' (first|(simp only [hI,cK,List.getElem?_cons_zero,aC,↓wA,↓wC,wB,bQ,bR,reduceIte,reduceCtorEq,aA,aAO])|(refine dJ ?_)|(with_reducible refine cO ?_ ?_; focus omega)|((first|apply cH|apply cI|apply cG)<;>intro h<;>try simp only [h]))
  all_goals rfl
 ·have hI:=wI w 9 (by subst hw; rfl)
  have hn:=hl hw wG
  rw [(congrArg (lC · n) hw).trans (aIk n)]
  refine cW nU [] ?_
  dsimp only [nU,m71,rF,cS,cE,cR,c8]
  try simp only [wQ]
  repeat' (first|(simp only [hI,cK,List.getElem?_cons_zero,aC,↓wA,↓wC,wB,bQ,bR,reduceIte,reduceCtorEq,aA,aAO])|(refine dJ ?_)|(with_reducible refine cO ?_ ?_; focus omega)|((first|apply cH|apply cI|apply cG)<;>intro h<;>try simp only [h]))
  all_goals rfl
 ·have hI:=wI w 10 (by subst hw; rfl)
  have hn:=hl hw wJ
  rw [(congrArg (lC · n) hw).trans (aHN n)]
  obtain ⟨a,rfl⟩:∃ a,n=[a]:=by
   match n,hn with
   | [a],_=>exact ⟨a,rfl⟩
  refine cW nU [] ?_
  dsimp only [nU,m71,rF,cS,cE,cR,c8]
  try simp only [wQ]
  repeat' (first|(simp only [hI,cK,List.getElem?_cons_zero,aC,↓wA,↓wC,wB,bQ,bR,reduceIte,reduceCtorEq,aA,aAO])|(refine dJ ?_)|(with_reducible refine cO ?_ ?_; focus omega)|((first|apply cH|apply cI|apply cG)<;>intro h<;>try simp only [h]))
  all_goals rfl
 ·have hI:=wI w 11 (by subst hw; rfl)
  have hn:=hl hw wT
  rw [(congrArg (lC · n) hw).trans (aHZ n)]
  obtain ⟨a,rfl⟩:∃ a,n=[a]:=by
   match n,hn with
   | [a],_=>exact ⟨a,rfl⟩
  refine cW nU [] ?_
  dsimp only [nU,m71,rF,cS,cE,cR,c8]
  try simp only [wQ]
  repeat' (first|(simp only [hI,cK,List.getElem?_cons_zero,aC,↓wA,↓wC,wB,bQ,bR,reduceIte,reduceCtorEq,aA,aAO])|(refine dJ ?_)|(with_reducible refine cO ?_ ?_; focus omega)|((first|apply cH|apply cI|apply cG)<;>intro h<;>try simp only [h]))
  all_goals rfl
 ·rw [wV hw] at h; cases h
theorem aF0:∀ (k:Nat) (v:List Int),v.length<=k->(∀ n∈v,gA n)->gA (mA v)
 | 0,v,h,hv=>by
  obtain rfl:=List.length_eq_zero_iff.1 (by omega:v.length=0)
  rw [mA,dif_pos (by decide)]
  exact ⟨by decide,by decide⟩
 | k + 1,v,h,hv=>by
  by_cases h1:v.length<=1
  ·rw [mA,dif_pos h1]
   cases v with
   | nil=>exact ⟨by decide,by decide⟩
   | cons a r=>exact hv a aW
  ·rw [<- wK h1]
   exact aF0 k _ (by have:=mN v; omega) (uY v hv)
theorem aCi {o:Off} (p:Cs->Bool) (h:dN o=true):zA (lO p o.cs):=by
 have hp:=eF h
 have hl:=qP p o.cs
 refine ⟨by omega,fun n hn=>?_⟩
 obtain ⟨x,hx,rfl⟩:=aT.1 hn
 have:=e8 (hp.2.2.2.2.2.2.2.2.2 x (List.mem_filter.1 hx).1)
 exact ⟨by omega,by simp only [dX]; omega⟩
theorem aNs {o:Off} (h:dN o=true):zA (aGT o):=by
 have hp:=eF h
 refine ⟨by simp [aGT],fun n hn=>?_⟩
 simp only [aGT,bH,List.not_mem_nil,or_false] at hn
 simp only [dX]
 omega
theorem aS9:zA []:=⟨by decide,fun n hn=>by cases hn⟩
theorem aGw (o:Off) (h:dN o=true):Fn prog 110 [o.s] (fun rs=>rs=[.sl false 1 (dl iD (lO (qW o) o.cs)),.bool true]):=by
 have h1:=aHy o (eU h)
 unfold aAS at h1
 rw [if_pos h] at h1
 simpa [D.unown,dS] using fH h1
theorem aF6 (o:Off) (h:dN o=true):Fn prog 90 [o.s] (fun rs=>rs=[.sl false 1 (dl iD (lO (qW o) o.cs)),.bool true]):=by
 have h1:=aH6 o (eU h)
 unfold aAS at h1
 rw [if_pos h] at h1
 simpa [D.unown,dS] using fH h1
theorem aFu (o:Off) (h:dN o=true):Fn prog 111 [o.s] (fun rs=>rs=[.sl false 1 (dl iD (lO (pS o) o.cs)),.bool true]):=by
 have h1:=aHv o (eU h)
 unfold aAS at h1
 rw [if_pos h] at h1
 simpa [D.unown,dS] using fH h1
theorem aGe (o:Off) (h:dN o=true):Fn prog 92 [o.s] (fun rs=>rs=[.sl false 1 (dl iD (lO (pS o) o.cs)),.bool true]):=by
 have h1:=aCg o (eU h)
 unfold aAS at h1
 rw [if_pos h] at h1
 simpa [D.unown,dS] using fH h1
def aFW (n:Int) (o:Off):List Int:=if c6 n 1 9=true then lO (aBZ n) o.cs else []
theorem aA9 {o:Off} (n:Int) (h:dN o=true):zA (aFW n o):=by
 unfold aFW
 split
 ·exact aCi _ h
 ·exact aS9
theorem aBa {o:Off} (n:Int) (h:dN o=true):zU n o=if c6 n 1 9=true then some (aFW n o) else none:=by
 unfold zU aFW
 rw [h]
 cases c6 n 1 9<;>rfl
theorem aVH {o:Off} {n:Int} (h:dN o=true):(aLc n o).map D.unown=[.sl false 1 (dl iD (aFW n o)),.bool (c6 n 1 9)]:=by
 unfold aLc aFW
 cases hw:c6 n 1 9 with
 | true=>rw [if_pos ⟨h,rfl⟩,if_pos rfl]; simp [D.unown,dS]
 | false=>rw [if_neg (fun e=>by cases e.2),if_neg (fun e=>by cases e)]; simp [D.unown]; rfl
theorem yM (o:Off) (n:Int) (h:dN o=true):Fn prog 108 [o.s,.int .i64 n] (fun rs=>rs=[.sl false 1 (dl iD (aFW n o)),.bool (c6 n 1 9)]):=by
 have h1:=fH (aGr o n (eU h))
 rw [aVH h] at h1
 exact h1
theorem xP (o:Off) (n:Int) (h:dN o=true):Fn prog 94 [o.s,.int .i64 n] (fun rs=>rs=[.sl false 1 (dl iD (aFW n o)),.bool (c6 n 1 9)]):=by
 have h1:=fH (aGG o n (eU h))
 rw [aVH h] at h1
 exact h1
def yL (o:Off):Int:=if eG o.led=true then mA (o.led.map jE) else 0
theorem aFK {o:Off}:gA (yL o):=by
 unfold yL
 split
 ·exact aF0 _ _ (aG _) (fun n hn=>by
   obtain ⟨s,_,rfl⟩:=aT.1 hn
   exact aG5 s)
 ·exact ⟨by decide,by decide⟩
theorem aGq {o:Off} (h:dN o=true):aDY o=[.int .i64 (yL o),.bool (eG o.led)]:=by
 unfold aDY yL
 cases hl:eG o.led with
 | true=>rw [if_pos ⟨h,rfl⟩,if_pos rfl]
 | false=>rw [if_neg (fun e=>by cases e.2),if_neg (fun e=>by cases e)]
theorem aGM {o:Off} (h:dN o=true):aDS o=if eG o.led=true then some (yL o) else none:=by
 unfold aDS yL
 cases hl:eG o.led with
 | true=>rw [if_pos ⟨h,rfl⟩,if_pos rfl,if_pos rfl]
 | false=>rw [if_neg (fun e=>by cases e.2),if_neg (fun e=>by cases e)]
def aJs (o:Off) (id:Int):List UInt8:=(jI o id).getD []
theorem yO {o:Off} (h:dN o=true) (id:Int):aB0 o id=[.str (aJs o id),.bool (jI o id).isSome]:=by
 unfold aB0 aJs jI
 rw [if_pos h]
 by_cases h2:0<=fN o.cs id
 ·rw [if_pos h2,if_pos ⟨h,h2⟩]; rfl
 ·rw [if_neg h2,if_neg (fun e=>h2 e.2)]; rfl
def aKB (x:Option (List UInt8)) (rs:List D):Prop:=∃ t,rs=[.str t,.bool x.isSome]/\∀ r,x=some r->t=r
theorem iF {x:List UInt8}:aKB (some x) [.str x,.bool true]:=⟨_,rfl,fun r e=>by injection e⟩
theorem iG {o:Off} {a:Int}:aKB (jI o a) [.str (aJs o a),.bool (jI o a).isSome]:=⟨_,rfl,fun r e=>by unfold aJs; rw [e]; rfl⟩
theorem k9 {α:Type} {c:Bool} {l:α} {f:α->List UInt8}:aKB ((if c=true then some l else none).map f) [.str (f l),.bool c]:=by
 cases c
 ·exact ⟨_,rfl,fun r e=>by cases e⟩
 ·exact ⟨_,rfl,fun r e=>by injection e⟩
end Go.Pe.Tryz
