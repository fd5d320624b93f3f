/- Steps of an office: the reference's l25Make; walked; Steps of an office: the reference's StepOffice and RunOffice; walked; Steps of an office: the law of StepOffice; Runs of steps of an office: the reference's RunOffice; walked; Runs of steps of an office: the law of RunOffice; Runs of steps of an office: the law of RunOffice, walked; Numbers read out of texts, as plain lists of bytes; a text cut at several bytes; Numbers read out of texts; texts cut: walked; A console's answers, as plain lists: the program's road and the reference's agree; A new office, and what the laws do with its parts, walked; The law of NewConsole, walked; Numbers read out of texts, texts split at blanks, lists of numbers as texts, as a console has them: walked; A command's step and its reply: the program's stepFor and replyOf, walked -/
import Derived.Test.YtjmobminbckhjabGreatDoorW4
import Derived.Test.YtjmobminbckhjabGreatDoorPeD
import Derived.Test.YtjmobminbckhjabGreatDoorMc1
import Derived.Test.YtjmobminbckhjabGreatDoorMc2
import Derived.Test.YtjmobminbckhjabGreatDoorMc3
import Derived.Test.YtjmobminbckhjabGreatDoorMc4
import Derived.Test.YtjmobminbckhjabGreatDoorMc5
import Derived.Test.YtjmobminbckhjabGreatDoorMc6
import Derived.Test.YtjmobminbckhjabGreatDoorMc7
import Derived.Test.YtjmobminbckhjabGreatDoorMc8
import Derived.Test.YtjmobminbckhjabGreatDoorW1
import Derived.Test.YtjmobminbckhjabGreatDoorShelf
set_option maxRecDepth 100000
set_option maxHeartbeats 4000000
set_option linter.all false
open And renaming intro->aJ
open Bool renaming and_eq_true->aG, false_eq_true->aV, and_true->bJ
open Int renaming toNat_natCast->aB, reduceToNat->aH, eq_ofNat_of_zero_le->aZ
open List renaming length_cons->aD, length_nil->aE, mem_of_getElem?->aF, length_pos_iff->aK, all_eq_true->aL, take_length->aM, take_of_length_le->aN, mem_singleton->aO, cons_append->aP, length_take->aQ, mem_append->aR, mem_map->aS, drop_succ_cons->aT, length_append->aU, mem_cons_self->aW, extract_eq_take_drop->aX, length_drop->aY, length_map->a6, nodup_nil->a7, mem_of_mem_take->a8, append_assoc->bB, nil_append->bC, drop_left'->bD, drop_drop->bE, drop_zero->bF, mem_cons->bG, map_cons->bK
open Nat renaming reduceBEq->aA, le_refl->aI, pow_le_pow_right->bA, add_assoc->bH, add_zero->bL, add_comm->bM, reduceEqDiff->bP, reduceAdd->bQ, reduceSub->bR, reduceLT->bT
open Option renaming map_some->aC
namespace Go.Pe.Tryz
open Go.Proofs.Tryz
def MkR (o:Off) (k id a v:Int) (rs:List D):Prop:=∃ q:Off,rs=[q.w,.bool (yT o k id a v).isSome]/\∀ q',yT o k id a v=some q'->q'=q
theorem aJl {o q:Off} {k id a v:Int} (h:jJ o k id a v=some q):yT o k id a v=if dV q=true then some q else none:=by
 unfold yT; rw [h]; rfl
theorem vN {o q:Off} {k id a v:Int} (h:jJ o k id a v=some q) {x:D} {b:Bool} (hx:x=q.w) (hb:b=dV q):MkR o k id a v [x,.bool b]:=by
 have hm:=aJl h
 refine ⟨q,?_,fun q' h'=>?_⟩
 ·rw [hx,hb,hm]
  cases dV q<;>rfl
 ·rw [hm] at h'
  split at h'
  ·injection h' with h'; exact h'.symm
  ·cases h'
theorem aBf {o:Off} {k id a v:Int} (q:Off) (h:jJ o k id a v=none) {x:D} (hx:x=q.w):MkR o k id a v [x,.bool false]:=by
 have hm:yT o k id a v=none:=by unfold yT; rw [h]; rfl
 exact ⟨q,by rw [hx,hm]; rfl,fun q' h'=>by rw [hm] at h'; cases h'⟩
theorem aZJ (o:Off):o.w.unown=o.s:=by simp [Off.w,Off.s,d5,D.unown,gG,fF]
theorem aZM (o:Off):o.w.noOwn=false:=by simp [Off.w,d5,D.noOwn]
theorem tW {o q:Off} {k id a v:Int} (ho:dV o=true) (h:jJ o k id a v=some q):q.ok0:=by
 have hp:=eT ho
 have h0:=fI ho
 have hc:∀ (i:Nat) (x:Cs),o.cs[i]?=some x->gS x=true:=fun i x hr=>hp.2.2.2.2.2.2.2.2.2 x (aF hr)
 unfold jJ at h
 split at h
 ·split at h
  ·cases h
  ·injection h with h; subst h; exact h0
 split at h
 ·split at h
  ·cases h
  ·injection h with h
   subst h
   refine ⟨⟨?_,fun x hx=>?_⟩,h0.2⟩
   ·simp [jQ]; omega
   ·rcases aR.1 hx with hx|hx
    ·exact h0.1.2 x (a8 hx)
    ·rcases bG.1 hx with rfl|hx
     ·simp [Cs.ok0]
     ·exact h0.1.2 x (List.mem_of_mem_drop hx)
 split at h
 ·split at h
  ·injection h with h
   subst h
   refine ⟨⟨by simpa using h0.1.1,fun x hx=>?_⟩,h0.2⟩
   obtain ⟨y,hy,rfl⟩:=aS.1 hx
   exact Nat.le_trans (List.length_filter_le (fun n=>!decide (n=v)) y.h) (h0.1.2 y hy)
  ·cases h
 split at h
 ·rename_i x hr
  have hxc:=fT (hc _ x hr)
  split at h
  ·split at h
   ·cases h
   ·injection h with h
    subst h
    refine ⟨aCG h0.1 ?_,h0.2⟩
    show (lZ v x.h).length<=1048576
    rw [aHy]; omega
  ·split at h
   ·split at h
    ·cases h
    ·injection h with h
     subst h
     refine ⟨aCG h0.1 ?_,h0.2⟩
     show x.h.length<=1048576
     omega
   ·split at h
    ·injection h with h
     subst h
     have he:∀ i,xY (o.cs.eraseIdx i):=fun i=>⟨by have:=List.length_eraseIdx_le o.cs i; omega,fun y hy=>h0.1.2 y (List.mem_of_mem_eraseIdx hy)⟩
     unfold mP
     split
     ·exact ⟨he _,h0.2⟩
     ·split
      ·exact ⟨he _,h0.2⟩
      ·refine ⟨he _,by simp; omega,fun s hs=>?_⟩
       rcases aR.1 hs with hs|hs
       ·exact h0.2.2 s hs
       ·rw [aO.1 hs]
        have h1:=eJ x.i (by simp only [eA]; omega)
        have h2:=eJ o.day (by simp only [eA]; omega)
        simp [nM]; omega
    ·cases h
 ·cases h
theorem aPp (o:Off) (id a v:Int) (ho:dV o=true) (hs:oG o 1 id a v=true):Fn prog 139 [o.s,lG 1 id a v] (MkR o 1 id a v):=by
 have hk1:decide ((1:Int)=1)=true:=rfl
 have hk2:decide ((1:Int)=2)=false:=rfl
 have hk3:decide ((1:Int)=3)=false:=rfl
 have hk4:decide ((1:Int)=4)=false:=rfl
 have hk5:decide ((1:Int)=5)=false:=rfl
 have hp:=eT ho
 have ho0:=fI ho
 have hO:=lJ o ho0
 have hF:=l8 o id ho0
 have hv:1<=v:=by simp [oG] at hs; exact hs.2
 refine c7 mK [[1,0],[1,0]] ?_
 dsimp only [mK,cY,dD]
 simp only [lG]
 repeat' (first|(simp only [aZw,aZx,cM,↓wA,↓wC,wB,cQ,cP,bP,bQ,bR,reduceIte,reduceCtorEq,aA,bT,dJ])|((first|apply cJ|apply cK|apply cI)<;>intro h<;>try simp only [h]))
 refine dF (iV 0 rfl) ?_
 simp only [cQ,cP,aZv,↓wA,↓wC,wB,cQ,cP,bP,bQ,bR,reduceIte,reduceCtorEq,aA,bT,dJ]
 refine dF (iV 1 rfl) ?_
 simp only [cQ,cP,D.unown,↓wA,↓wC,wB,cQ,cP,bP,bQ,bR,reduceIte,reduceCtorEq,aA,bT,dJ]
 have hf0:∀ K:SV->Prop,dL 0 0 (.d (.ptr o.s)) K=K (.d (.ptr (.int .i64 o.day))):=fun K=>by simp [Off.s,d5,dL,D.pre,D.nth,D.size]
 have hf1:∀ K:SV->Prop,dL 1 1 (.d (.ptr o.s)) K=K (.d (.ptr (.sl false 4 (dl Cs.s o.cs)))):=fun K=>by simp [Off.s,d5,dL,D.pre,D.nth,D.size]
 cases hd:decide (20000 - o.day < v) with
 | true =>
  have hM:jJ o 1 id a v=none:=by unfold jJ; rw [if_pos rfl,if_pos (of_decide_eq_true hd)]
  repeat' (first|(simp only [hk1,hk2,hk3,hk4,hk5,aZw,aZx,aZB,Off.w,d5,c8,cZ,hf0,hf1,hd,↓dK,cM,dZ,aB,↓wA,↓wC,wB,cQ,cP,bP,bQ,bR,reduceIte,reduceCtorEq,aA,bT,dJ])|(refine dN ?_)|(with_reducible refine aJ ?_ ?_)|(refine cO hO (by simp [dH,dQ,aZv]) rfl ?_)|(refine cO hF (by simp [dH,dQ,aZv]) rfl ?_)|(with_reducible refine cV ?_ ?_; focus (simp only [eA]; omega))|((first|apply cJ|apply cK|apply cI)<;>intro h<;>try simp only [h]))
  all_goals exact aBf o hM rfl
 | false =>
  have hM:jJ o 1 id a v=some { o with day:=o.day + v }:=by unfold jJ; rw [if_pos rfl,if_neg (of_decide_eq_false hd)]
  have hG:=gT _ (tW ho hM)
  have hd':=of_decide_eq_false hd
  have hu:(D.st (.cons (.int .i64 (o.day + v)) (.cons (.sl true 4 (dl Cs.s o.cs)) (.cons (.int .i64 o.kept) (.cons (.int .i64 o.moved) (.cons (.sl true 1 (dl D.str o.led)) .nil)))))).unown=Off.s { o with day:=o.day + v }:=aZJ { o with day:=o.day + v }
  repeat' (first|(simp only [hk1,hk2,hk3,hk4,hk5,aZw,aZx,aZB,Off.w,d5,c8,cZ,hf0,hf1,hd,↓dK,cM,dZ,aB,↓wA,↓wC,wB,cQ,cP,bP,bQ,bR,reduceIte,reduceCtorEq,aA,bT,dJ])|(refine dN ?_)|(with_reducible refine aJ ?_ ?_)|(refine cO hO (by simp [dH,dQ,aZv]) rfl ?_)|(refine cO hF (by simp [dH,dQ,aZv]) rfl ?_)|(with_reducible refine cV ?_ ?_; focus (simp only [eA]; omega))|(refine cO hG (congrArg (fun d:D=>some [d]) hu) rfl ?_)|(refine cR hG (congrArg (fun d:D=>some [d]) hu) rfl ?_)|((first|apply cJ|apply cK|apply cI)<;>intro h<;>try simp only [h]))
  all_goals exact vN hM rfl rfl
theorem aQb (o:Off) (id a v:Int) (ho:dV o=true) (hs:oG o 2 id a v=true):Fn prog 139 [o.s,lG 2 id a v] (MkR o 2 id a v):=by
 have hk1:decide ((2:Int)=1)=false:=rfl
 have hk2:decide ((2:Int)=2)=true:=rfl
 have hk3:decide ((2:Int)=3)=false:=rfl
 have hk4:decide ((2:Int)=4)=false:=rfl
 have hk5:decide ((2:Int)=5)=false:=rfl
 have hp:=eT ho
 have ho0:=fI ho
 have hO:=lJ o ho0
 have hF:=l8 o id ho0
 have hv:0<=v:=by simp [oG] at hs; exact hs.2
 refine c7 mK [[1,0],[1,0]] ?_
 dsimp only [mK,cY,dD]
 simp only [lG]
 repeat' (first|(simp only [aZw,aZx,cM,↓wA,↓wC,wB,cQ,cP,bP,bQ,bR,reduceIte,reduceCtorEq,aA,bT,dJ])|((first|apply cJ|apply cK|apply cI)<;>intro h<;>try simp only [h]))
 refine dF (iV 0 rfl) ?_
 simp only [cQ,cP,aZv,↓wA,↓wC,wB,cQ,cP,bP,bQ,bR,reduceIte,reduceCtorEq,aA,bT,dJ]
 refine dF (iV 1 rfl) ?_
 simp only [cQ,cP,D.unown,↓wA,↓wC,wB,cQ,cP,bP,bQ,bR,reduceIte,reduceCtorEq,aA,bT,dJ]
 have hf0:∀ K:SV->Prop,dL 0 0 (.d (.ptr o.s)) K=K (.d (.ptr (.int .i64 o.day))):=fun K=>by simp [Off.s,d5,dL,D.pre,D.nth,D.size]
 have hf1:∀ K:SV->Prop,dL 1 1 (.d (.ptr o.s)) K=K (.d (.ptr (.sl false 4 (dl Cs.s o.cs)))):=fun K=>by simp [Off.s,d5,dL,D.pre,D.nth,D.size]
 cases hd:decide (20000 - o.day < v) with
 | true =>
  have hM:jJ o 2 id a v=none:=by unfold jJ; rw [if_neg (by decide),if_pos rfl,if_pos (of_decide_eq_true hd)]
  repeat' (first|(simp only [hk1,hk2,hk3,hk4,hk5,aZw,aZx,aZB,Off.w,d5,c8,cZ,hf0,hf1,hd,↓dK,cM,dZ,aB,aC,cU,dC,↓wA,↓wC,wB,cQ,cP,bP,bQ,bR,reduceIte,reduceCtorEq,aA,bT,dJ])|(refine dN ?_)|(with_reducible refine aJ ?_ ?_)|(refine cO hO (by simp [dH,dQ,aZv]) rfl ?_)|(refine cO hF (by simp [dH,dQ,aZv]) rfl ?_)|(with_reducible refine cV ?_ ?_; focus (simp only [eA]; omega))|((first|apply cJ|apply cK|apply cI)<;>intro h<;>try simp only [h]))
  all_goals exact aBf o hM rfl
 | false =>
  have hM:jJ o 2 id a v=some { o with cs:=jQ ⟨id,a,o.day + v,[]⟩ o.cs }:=by unfold jJ; rw [if_neg (by decide),if_pos rfl,if_neg (of_decide_eq_false hd)]
  have hG:=gT _ (tW ho hM)
  have hd':=of_decide_eq_false hd
  have hE:=aI5 o 2 id a v ho0 (by simp only [eA]; omega)
  simp only [lG] at hE
  have hu:(D.st (.cons (.int .i64 o.day) (.cons (.sl true 4 (dl Cs.s (jQ ⟨id,a,o.day + v,[]⟩ o.cs))) (.cons (.int .i64 o.kept) (.cons (.int .i64 o.moved) (.cons (.sl true 1 (dl D.str o.led)) .nil)))))).unown=Off.s { o with cs:=jQ ⟨id,a,o.day + v,[]⟩ o.cs }:=aZJ { o with cs:=jQ ⟨id,a,o.day + v,[]⟩ o.cs }
  repeat' (first|(simp only [hk1,hk2,hk3,hk4,hk5,aZw,aZx,aZB,Off.w,d5,c8,cZ,hf0,hf1,hd,↓dK,cM,dZ,aB,aC,cU,dC,↓wA,↓wC,wB,cQ,cP,bP,bQ,bR,reduceIte,reduceCtorEq,aA,bT,dJ])|(refine dN ?_)|(with_reducible refine aJ ?_ ?_)|(refine cO hO (by simp [dH,dQ,aZv]) rfl ?_)|(refine cO hF (by simp [dH,dQ,aZv]) rfl ?_)|(with_reducible refine cV ?_ ?_; focus (simp only [eA]; omega))|(refine cO hE (by simp [dH,dQ,aZv,D.unown]) rfl ?_)|(refine cO hG (congrArg (fun d:D=>some [d]) hu) rfl ?_)|(refine cR hG (congrArg (fun d:D=>some [d]) hu) rfl ?_)|((first|apply cJ|apply cK|apply cI)<;>intro h<;>try simp only [h]))
  all_goals exact vN hM rfl rfl
theorem aPg (o:Off) (id a v:Int) (ho:dV o=true) (hs:oG o 4 id a v=true):Fn prog 139 [o.s,lG 4 id a v] (MkR o 4 id a v):=by
 have hk1:decide ((4:Int)=1)=false:=rfl
 have hk2:decide ((4:Int)=2)=false:=rfl
 have hk3:decide ((4:Int)=3)=false:=rfl
 have hk4:decide ((4:Int)=4)=true:=rfl
 have hk5:decide ((4:Int)=5)=false:=rfl
 have hp:=eT ho
 have ho0:=fI ho
 have hO:=lJ o ho0
 have hF:=l8 o id ho0
 have hE:=aE2 o v ho0
 have hd:True:=trivial
 cases hc:yG v o.cs with
 | true =>
  have hM:jJ o 4 id a v=some { o with cs:=o.cs.map (v7 v) }:=by unfold jJ; rw [if_neg (by decide),if_neg (by decide),if_pos rfl,if_pos hc]
  have hG:=gT _ (tW ho hM)
  have hu:(D.st (.cons (.int .i64 o.day) (.cons (.sl true 4 (dl Cs.s (o.cs.map (v7 v)))) (.cons (.int .i64 o.kept) (.cons (.int .i64 o.moved) (.cons (.sl true 1 (dl D.str o.led)) .nil)))))).unown=Off.s { o with cs:=o.cs.map (v7 v) }:=aZJ { o with cs:=o.cs.map (v7 v) }
  rw [hc] at hE
  refine c7 mK [[1,0],[1,0]] ?_
  dsimp only [mK,cY,dD]
  simp only [lG]
  repeat' (first|(simp only [aZw,aZx,cM,↓wA,↓wC,wB,cQ,cP,bP,bQ,bR,reduceIte,reduceCtorEq,aA,bT,dJ])|((first|apply cJ|apply cK|apply cI)<;>intro h<;>try simp only [h]))
  refine dF (iV 0 rfl) ?_
  simp only [cQ,cP,aZv,↓wA,↓wC,wB,cQ,cP,bP,bQ,bR,reduceIte,reduceCtorEq,aA,bT,dJ]
  refine dF (iV 1 rfl) ?_
  simp only [cQ,cP,D.unown,↓wA,↓wC,wB,cQ,cP,bP,bQ,bR,reduceIte,reduceCtorEq,aA,bT,dJ]
  have hf0:∀ K:SV->Prop,dL 0 0 (.d (.ptr o.s)) K=K (.d (.ptr (.int .i64 o.day))):=fun K=>by simp [Off.s,d5,dL,D.pre,D.nth,D.size]
  have hf1:∀ K:SV->Prop,dL 1 1 (.d (.ptr o.s)) K=K (.d (.ptr (.sl false 4 (dl Cs.s o.cs)))):=fun K=>by simp [Off.s,d5,dL,D.pre,D.nth,D.size]
  repeat' (first|(simp only [hk1,hk2,hk3,hk4,hk5,aZw,aZx,aZB,Off.w,d5,c8,cZ,hf0,hf1,hd,↓dK,cM,dZ,aB,aC,cU,dC,↓wA,↓wC,wB,cQ,cP,bP,bQ,bR,reduceIte,reduceCtorEq,aA,bT,dJ])|(refine dN ?_)|(with_reducible refine aJ ?_ ?_)|(refine cO hO (by simp [dH,dQ,aZv]) rfl ?_)|(refine cO hF (by simp [dH,dQ,aZv]) rfl ?_)|(with_reducible refine cV ?_ ?_; focus (simp only [eA]; omega))|(refine cO hE (by simp [dH,dQ,aZv]) rfl ?_)|(refine cO hG (congrArg (fun d:D=>some [d]) hu) rfl ?_)|(refine cR hG (congrArg (fun d:D=>some [d]) hu) rfl ?_)|((first|apply cJ|apply cK|apply cI)<;>intro h<;>try simp only [h]))
  all_goals exact vN hM rfl rfl
 | false =>
  have hM:jJ o 4 id a v=none:=by unfold jJ; rw [if_neg (by decide),if_neg (by decide),if_pos rfl,if_neg (by rw [hc]; decide)]
  rw [hc] at hE
  refine c7 mK [[1,0],[1,0]] ?_
  dsimp only [mK,cY,dD]
  simp only [lG]
  repeat' (first|(simp only [aZw,aZx,cM,↓wA,↓wC,wB,cQ,cP,bP,bQ,bR,reduceIte,reduceCtorEq,aA,bT,dJ])|((first|apply cJ|apply cK|apply cI)<;>intro h<;>try simp only [h]))
  refine dF (iV 0 rfl) ?_
  simp only [cQ,cP,aZv,↓wA,↓wC,wB,cQ,cP,bP,bQ,bR,reduceIte,reduceCtorEq,aA,bT,dJ]
  refine dF (iV 1 rfl) ?_
  simp only [cQ,cP,D.unown,↓wA,↓wC,wB,cQ,cP,bP,bQ,bR,reduceIte,reduceCtorEq,aA,bT,dJ]
  have hf0:∀ K:SV->Prop,dL 0 0 (.d (.ptr o.s)) K=K (.d (.ptr (.int .i64 o.day))):=fun K=>by simp [Off.s,d5,dL,D.pre,D.nth,D.size]
  have hf1:∀ K:SV->Prop,dL 1 1 (.d (.ptr o.s)) K=K (.d (.ptr (.sl false 4 (dl Cs.s o.cs)))):=fun K=>by simp [Off.s,d5,dL,D.pre,D.nth,D.size]
  repeat' (first|(simp only [hk1,hk2,hk3,hk4,hk5,aZw,aZx,aZB,Off.w,d5,c8,cZ,hf0,hf1,hd,↓dK,cM,dZ,aB,aC,cU,dC,↓wA,↓wC,wB,cQ,cP,bP,bQ,bR,reduceIte,reduceCtorEq,aA,bT,dJ])|(refine dN ?_)|(with_reducible refine aJ ?_ ?_)|(refine cO hO (by simp [dH,dQ,aZv]) rfl ?_)|(refine cO hF (by simp [dH,dQ,aZv]) rfl ?_)|(with_reducible refine cV ?_ ?_; focus (simp only [eA]; omega))|(refine cO hE (by simp [dH,dQ,aZv]) rfl ?_)|((first|apply cJ|apply cK|apply cI)<;>intro h<;>try simp only [h]))
  all_goals exact aBf { o with cs:=o.cs.map (v7 v) } hM rfl
theorem aBm {o:Off} {id:Int} (h:decide (0<=gM o.cs id)=true):∃ (i:Nat) (x:Cs),gM o.cs id=(i:Int)/\o.cs[i]?=some x:=by
 rcases nX o.cs id with ⟨_,hn⟩|⟨i,x,hi,hr,_⟩
 ·rw [hn] at h; cases h
 ·exact ⟨i,x,hi,hr⟩
theorem aP1 (o:Off) (id a v:Int) (ho:dV o=true) (hs:oG o 6 id a v=true):Fn prog 139 [o.s,lG 6 id a v] (MkR o 6 id a v):=by
 have hk1:decide ((6:Int)=1)=false:=rfl
 have hk2:decide ((6:Int)=2)=false:=rfl
 have hk3:decide ((6:Int)=3)=false:=rfl
 have hk4:decide ((6:Int)=4)=false:=rfl
 have hk5:decide ((6:Int)=5)=false:=rfl
 have hp:=eT ho
 have ho0:=fI ho
 have hO:=lJ o ho0
 have hF:=l8 o id ho0
 have hd:True:=trivial
 obtain ⟨i,x,hi,hr⟩:=aBm (o:=o) (id:=id) (by simp [oG] at hs; exact decide_eq_true hs.1.1)
 have hE:=aMl o i x ho hr
 rw [hi] at hF
 have hM0:jJ o 6 id a v=if eU o x=true then some (mP o i x) else none:=by
  unfold jJ
  rw [if_neg (by decide),if_neg (by decide),if_neg (by decide),hi,aB,hr]
  simp
 have hwu:=aZJ (mP o i x)
 have hwV:∀ q:Off,q.w.isV=true:=fun _=>rfl
 have hwS:∀ q:Off,q.w.size=5:=fun _=>rfl
 have hwN:=aZM
 have hwB:∀ q:Off,q.w.isStB=true:=fun _=>rfl
 generalize hq:mP o i x=q at hE hM0 hwu
 cases hc:eU o x with
 | true =>
  have hM:jJ o 6 id a v=some q:=by rw [hM0,if_pos hc]
  have hG:=gT _ (tW ho hM)
  rw [hc,Bool.true_and] at hE
  cases hk:dV q with
  | true =>
   rw [hk] at hE hG
   refine c7 mK [[1,0],[1,0]] ?_
   dsimp only [mK,cY,dD]
   simp only [lG]
   repeat' (first|(simp only [aZw,aZx,cM,↓wA,↓wC,wB,cQ,cP,bP,bQ,bR,reduceIte,reduceCtorEq,aA,bT,dJ])|((first|apply cJ|apply cK|apply cI)<;>intro h<;>try simp only [h]))
   refine dF (iV 0 rfl) ?_
   simp only [cQ,cP,aZv,↓wA,↓wC,wB,cQ,cP,bP,bQ,bR,reduceIte,reduceCtorEq,aA,bT,dJ]
   refine dF (iV 1 rfl) ?_
   simp only [cQ,cP,D.unown,↓wA,↓wC,wB,cQ,cP,bP,bQ,bR,reduceIte,reduceCtorEq,aA,bT,dJ]
   have hf0:∀ K:SV->Prop,dL 0 0 (.d (.ptr o.s)) K=K (.d (.ptr (.int .i64 o.day))):=fun K=>by simp [Off.s,d5,dL,D.pre,D.nth,D.size]
   have hf1:∀ K:SV->Prop,dL 1 1 (.d (.ptr o.s)) K=K (.d (.ptr (.sl false 4 (dl Cs.s o.cs)))):=fun K=>by simp [Off.s,d5,dL,D.pre,D.nth,D.size]
   repeat' (first|(simp only [hwV,hwS,hwN,hwB,hk1,hk2,hk3,hk4,hk5,aZw,aZx,aZB,c8,cZ,hf0,hf1,hd,↓dK,cM,dZ,aB,aC,cU,dC,↓wA,↓wC,wB,cQ,cP,bP,bQ,bR,reduceIte,reduceCtorEq,aA,bT,dJ])|(refine dN ?_)|(with_reducible refine aJ ?_ ?_)|(refine cO hO (by simp [dH,dQ,aZv]) rfl ?_)|(refine cO hF (by simp [dH,dQ,aZv]) rfl ?_)|(with_reducible refine cV ?_ ?_; focus (simp only [eA]; omega))|(refine cO hE (by simp [dH,dQ,aZv]) rfl ?_)|(refine cO hG (congrArg (fun d:D=>some [d]) hwu) rfl ?_)|(refine cR hG (congrArg (fun d:D=>some [d]) hwu) rfl ?_)|((first|apply cJ|apply cK|apply cI)<;>intro h<;>try simp only [h]))
   all_goals exact eY _ rfl (cW rfl (cW rfl (cW rfl (vN hM rfl hk.symm))))
  | false =>
   rw [hk] at hE hG
   refine c7 mK [[1,0],[1,0]] ?_
   dsimp only [mK,cY,dD]
   simp only [lG]
   repeat' (first|(simp only [aZw,aZx,cM,↓wA,↓wC,wB,cQ,cP,bP,bQ,bR,reduceIte,reduceCtorEq,aA,bT,dJ])|((first|apply cJ|apply cK|apply cI)<;>intro h<;>try simp only [h]))
   refine dF (iV 0 rfl) ?_
   simp only [cQ,cP,aZv,↓wA,↓wC,wB,cQ,cP,bP,bQ,bR,reduceIte,reduceCtorEq,aA,bT,dJ]
   refine dF (iV 1 rfl) ?_
   simp only [cQ,cP,D.unown,↓wA,↓wC,wB,cQ,cP,bP,bQ,bR,reduceIte,reduceCtorEq,aA,bT,dJ]
   have hf0:∀ K:SV->Prop,dL 0 0 (.d (.ptr o.s)) K=K (.d (.ptr (.int .i64 o.day))):=fun K=>by simp [Off.s,d5,dL,D.pre,D.nth,D.size]
   have hf1:∀ K:SV->Prop,dL 1 1 (.d (.ptr o.s)) K=K (.d (.ptr (.sl false 4 (dl Cs.s o.cs)))):=fun K=>by simp [Off.s,d5,dL,D.pre,D.nth,D.size]
   repeat' (first|(simp only [hwV,hwS,hwN,hwB,hk1,hk2,hk3,hk4,hk5,aZw,aZx,aZB,c8,cZ,hf0,hf1,hd,↓dK,cM,dZ,aB,aC,cU,dC,↓wA,↓wC,wB,cQ,cP,bP,bQ,bR,reduceIte,reduceCtorEq,aA,bT,dJ])|(refine dN ?_)|(with_reducible refine aJ ?_ ?_)|(refine cO hO (by simp [dH,dQ,aZv]) rfl ?_)|(refine cO hF (by simp [dH,dQ,aZv]) rfl ?_)|(with_reducible refine cV ?_ ?_; focus (simp only [eA]; omega))|(refine cO hE (by simp [dH,dQ,aZv]) rfl ?_)|((first|apply cJ|apply cK|apply cI)<;>intro h<;>try simp only [h]))
   all_goals exact eY _ rfl (cW rfl (cW rfl (cW rfl (vN hM rfl hk.symm))))
 | false =>
  have hM:jJ o 6 id a v=none:=by rw [hM0,if_neg (by rw [hc]; decide)]
  rw [hc,Bool.false_and] at hE
  refine c7 mK [[1,0],[1,0]] ?_
  dsimp only [mK,cY,dD]
  simp only [lG]
  repeat' (first|(simp only [aZw,aZx,cM,↓wA,↓wC,wB,cQ,cP,bP,bQ,bR,reduceIte,reduceCtorEq,aA,bT,dJ])|((first|apply cJ|apply cK|apply cI)<;>intro h<;>try simp only [h]))
  refine dF (iV 0 rfl) ?_
  simp only [cQ,cP,aZv,↓wA,↓wC,wB,cQ,cP,bP,bQ,bR,reduceIte,reduceCtorEq,aA,bT,dJ]
  refine dF (iV 1 rfl) ?_
  simp only [cQ,cP,D.unown,↓wA,↓wC,wB,cQ,cP,bP,bQ,bR,reduceIte,reduceCtorEq,aA,bT,dJ]
  have hf0:∀ K:SV->Prop,dL 0 0 (.d (.ptr o.s)) K=K (.d (.ptr (.int .i64 o.day))):=fun K=>by simp [Off.s,d5,dL,D.pre,D.nth,D.size]
  have hf1:∀ K:SV->Prop,dL 1 1 (.d (.ptr o.s)) K=K (.d (.ptr (.sl false 4 (dl Cs.s o.cs)))):=fun K=>by simp [Off.s,d5,dL,D.pre,D.nth,D.size]
  repeat' (first|(simp only [hwV,hwS,hwN,hwB,hk1,hk2,hk3,hk4,hk5,aZw,aZx,aZB,c8,cZ,hf0,hf1,hd,↓dK,cM,dZ,aB,aC,cU,dC,↓wA,↓wC,wB,cQ,cP,bP,bQ,bR,reduceIte,reduceCtorEq,aA,bT,dJ])|(refine dN ?_)|(with_reducible refine aJ ?_ ?_)|(refine cO hO (by simp [dH,dQ,aZv]) rfl ?_)|(refine cO hF (by simp [dH,dQ,aZv]) rfl ?_)|(with_reducible refine cV ?_ ?_; focus (simp only [eA]; omega))|(refine cO hE (by simp [dH,dQ,aZv]) rfl ?_)|((first|apply cJ|apply cK|apply cI)<;>intro h<;>try simp only [h]))
  all_goals exact eY _ rfl (cW rfl (cW rfl (cW rfl (aBf q hM rfl))))
theorem aPf (o:Off) (id a v:Int) (ho:dV o=true) (hs:oG o 3 id a v=true):Fn prog 139 [o.s,lG 3 id a v] (MkR o 3 id a v):=by
 have hk1:decide ((3:Int)=1)=false:=rfl
 have hk2:decide ((3:Int)=2)=false:=rfl
 have hk3:decide ((3:Int)=3)=true:=rfl
 have hk4:decide ((3:Int)=4)=false:=rfl
 have hk5:decide ((3:Int)=5)=false:=rfl
 have hp:=eT ho
 have ho0:=fI ho
 have hO:=lJ o ho0
 have hF:=l8 o id ho0
 have hd:True:=trivial
 obtain ⟨i,x,hi,hr⟩:=aBm (o:=o) (id:=id) (by simp [oG] at hs; exact decide_eq_true hs.1.1)
 have hxc:=fT (hp.2.2.2.2.2.2.2.2.2 x (aF hr))
 have hH:=aIN x.h v (by omega)
 have hi0:(0:Int)<=(i:Int):=by omega
 rw [hi] at hF
 have hM0:jJ o 3 id a v=if x.h.contains v=true then none else some { o with cs:=o.cs.set i { x with h:=lZ v x.h } }:=by
  unfold jJ
  rw [if_neg (by decide),if_neg (by decide),if_neg (by decide),hi,aB,hr]
  simp
 have hgn:(dl Cs.s o.cs).nth i=some (x.p (.sl false 1 (dl iD x.h))):=by rw [dC,hr]; rfl
 have hgs:∀ (y:D),((dl Cs.s o.cs).setN i y).nth i=some y:=fun y=>by rw [rB,if_pos rfl,hgn]; rfl
 have hfx:∀ K:SV->Prop,dL 3 3 (.d (.ptr x.s)) K=K (.d (.ptr (.sl false 1 (dl iD x.h)))):=fun K=>xC
 cases hc:x.h.contains v with
 | true =>
  rw [hc] at hH
  have hM:jJ o 3 id a v=none:=by rw [hM0,if_pos hc]
  refine c7 mK [[1,0],[1,0]] ?_
  dsimp only [mK,cY,dD]
  simp only [lG]
  repeat' (first|(simp only [aZw,aZx,cM,↓wA,↓wC,wB,cQ,cP,bP,bQ,bR,reduceIte,reduceCtorEq,aA,bT,dJ])|((first|apply cJ|apply cK|apply cI)<;>intro h<;>try simp only [h]))
  refine dF (iV 0 rfl) ?_
  simp only [cQ,cP,aZv,↓wA,↓wC,wB,cQ,cP,bP,bQ,bR,reduceIte,reduceCtorEq,aA,bT,dJ]
  refine dF (iV 1 rfl) ?_
  simp only [cQ,cP,D.unown,↓wA,↓wC,wB,cQ,cP,bP,bQ,bR,reduceIte,reduceCtorEq,aA,bT,dJ]
  have hf0:∀ K:SV->Prop,dL 0 0 (.d (.ptr o.s)) K=K (.d (.ptr (.int .i64 o.day))):=fun K=>by simp [Off.s,d5,dL,D.pre,D.nth,D.size]
  have hf1:∀ K:SV->Prop,dL 1 1 (.d (.ptr o.s)) K=K (.d (.ptr (.sl false 4 (dl Cs.s o.cs)))):=fun K=>by simp [Off.s,d5,dL,D.pre,D.nth,D.size]
  repeat' (first|(simp only [hk1,hk2,hk3,hk4,hk5,aZw,aZx,aZB,Off.w,d5,c8,cZ,hf0,hf1,hd,↓dK,cM,dZ,aB,aC,cU,dC,hi0,hr,hfx,dB,↓wA,↓wC,wB,cQ,cP,bP,bQ,bR,reduceIte,reduceCtorEq,aA,bT,dJ])|(refine dN ?_)|(with_reducible refine aJ ?_ ?_)|(refine cO hO (by simp [dH,dQ,aZv]) rfl ?_)|(refine cO hF (by simp [dH,dQ,aZv]) rfl ?_)|(with_reducible refine cV ?_ ?_; focus (simp only [eA]; omega))|(refine cO (hH) rfl rfl ?_)|(refine cR (hH) rfl rfl ?_)|((first|apply cJ|apply cK|apply cI)<;>intro h<;>try simp only [h]))
  all_goals exact aBf o hM rfl
 | false =>
  rw [hc] at hH
  have hM:jJ o 3 id a v=some { o with cs:=o.cs.set i { x with h:=lZ v x.h } }:=by rw [hM0,if_neg (by rw [hc]; decide)]
  have hG:=gT _ (tW ho hM)
  have hnv:v ∉ x.h:=fun h=>by rw [List.contains_iff_mem.2 h] at hc; cases hc
  have hP:Fn prog 173 [.sl false 1 (dl iD x.h),.int .i64 v] (fun rs=>rs=[.sl false 1 (dl iD (lZ v x.h))]):=by
   simpa [D.unown,dW] using fE (aNT x.h v (by omega) hnv)
  have hset:(dl Cs.s o.cs).setN i (x.p (.sl false 1 (dl iD (lZ v x.h))))=dl Cs.s (o.cs.set i { x with h:=lZ v x.h }):=by
   have e:x.p (.sl false 1 (dl iD (lZ v x.h)))=Cs.s { x with h:=lZ v x.h }:=rfl
   rw [e,kZ]
  have hu:(D.st (.cons (.int .i64 o.day) (.cons (.sl true 4 (dl Cs.s (o.cs.set i { x with h:=lZ v x.h }))) (.cons (.int .i64 o.kept) (.cons (.int .i64 o.moved) (.cons (.sl true 1 (dl D.str o.led)) .nil)))))).unown=Off.s { o with cs:=o.cs.set i { x with h:=lZ v x.h } }:=aZJ { o with cs:=o.cs.set i { x with h:=lZ v x.h } }
  refine c7 mK [[1,1,1,0,1,0,1,1,1,1,1,0,1],[1,1,1,1,0],[1,0],[1,0]] ?_
  dsimp only [mK,cY,dD]
  simp only [lG]
  repeat' (first|(simp only [aZw,aZx,cM,↓wA,↓wC,wB,cQ,cP,bP,bQ,bR,reduceIte,reduceCtorEq,aA,bT,dJ])|((first|apply cJ|apply cK|apply cI)<;>intro h<;>try simp only [h]))
  refine dF (iV 0 rfl) ?_
  simp only [cQ,cP,aZv,↓wA,↓wC,wB,cQ,cP,bP,bQ,bR,reduceIte,reduceCtorEq,aA,bT,dJ]
  refine dF (iV 1 rfl) ?_
  simp only [cQ,cP,D.unown,↓wA,↓wC,wB,cQ,cP,bP,bQ,bR,reduceIte,reduceCtorEq,aA,bT,dJ]
  have hf0:∀ K:SV->Prop,dL 0 0 (.d (.ptr o.s)) K=K (.d (.ptr (.int .i64 o.day))):=fun K=>by simp [Off.s,d5,dL,D.pre,D.nth,D.size]
  have hf1:∀ K:SV->Prop,dL 1 1 (.d (.ptr o.s)) K=K (.d (.ptr (.sl false 4 (dl Cs.s o.cs)))):=fun K=>by simp [Off.s,d5,dL,D.pre,D.nth,D.size]
  repeat' (first|(simp only [hk1,hk2,hk3,hk4,hk5,aZw,aZx,aZB,Off.w,d5,c8,cZ,hf0,hf1,hd,↓dK,cM,dZ,aB,aC,cU,dC,hi0,hr,hfx,dB,↓wA,↓wC,wB,cQ,cP,bP,bQ,bR,reduceIte,reduceCtorEq,aA,bT,dJ])|(refine dN ?_)|(with_reducible refine aJ ?_ ?_)|(refine cO hO (by simp [dH,dQ,aZv]) rfl ?_)|(refine cO hF (by simp [dH,dQ,aZv]) rfl ?_)|(with_reducible refine cV ?_ ?_; focus (simp only [eA]; omega))|(refine cO (hH) rfl rfl ?_)|(refine cR (hH) rfl rfl ?_)|((first|apply cJ|apply cK|apply cI)<;>intro h<;>try simp only [h]))
  refine fG _ (f8 4 none [1] (es:=4) (xs:=dl Cs.s o.cs) rfl rfl) fun v1=>?_
  simp only [eS,↓wA,↓wC,wB,cQ,cP,bP,bQ,bR,reduceIte,reduceCtorEq,aA,bT,dJ]
  repeat' (first|(simp only [hk1,hk2,hk3,hk4,hk5,aZw,aZx,aZB,Off.w,d5,c8,cZ,hf0,hf1,hd,↓dK,cM,dZ,aB,aC,cU,hi0,hgn,hgs,dB,iE,fU,fV,hset,↓wA,↓wC,wB,cQ,cP,bP,bQ,bR,reduceIte,reduceCtorEq,aA,bT,dJ])|(refine dN ?_)|(with_reducible refine aJ ?_ ?_)|(refine cO hO (by simp [dH,dQ,aZv]) rfl ?_)|(refine cO hF (by simp [dH,dQ,aZv]) rfl ?_)|(with_reducible refine cV ?_ ?_; focus (simp only [eA]; omega))|(refine cO (hP) rfl rfl ?_)|(refine cR (hP) rfl rfl ?_)|((first|apply cJ|apply cK|apply cI)<;>intro h<;>try simp only [h]))
  refine dF (i7 4 6 5 none [1] rfl rfl rfl rfl (by decide) rfl) ?_
  simp only [eS,↓wA,↓wC,wB,cQ,cP,bP,bQ,bR,reduceIte,reduceCtorEq,aA,bT,dJ]
  repeat' (first|(simp only [hk1,hk2,hk3,hk4,hk5,aZw,aZx,aZB,Off.w,d5,c8,cZ,hf0,hf1,hd,↓dK,cM,dZ,aB,aC,cU,↓wA,↓wC,wB,cQ,cP,bP,bQ,bR,reduceIte,reduceCtorEq,aA,bT,dJ])|(refine dN ?_)|(with_reducible refine aJ ?_ ?_)|(refine cO hO (by simp [dH,dQ,aZv]) rfl ?_)|(refine cO hF (by simp [dH,dQ,aZv]) rfl ?_)|(with_reducible refine cV ?_ ?_; focus (simp only [eA]; omega))|(refine cO hG (congrArg (fun d:D=>some [d]) hu) rfl ?_)|(refine cR hG (congrArg (fun d:D=>some [d]) hu) rfl ?_)|((first|apply cJ|apply cK|apply cI)<;>intro h<;>try simp only [h]))
  all_goals exact vN hM rfl rfl
theorem aN7 (o:Off) (id a v:Int) (ho:dV o=true) (hs:oG o 5 id a v=true):Fn prog 139 [o.s,lG 5 id a v] (MkR o 5 id a v):=by
 have hk1:decide ((5:Int)=1)=false:=rfl
 have hk2:decide ((5:Int)=2)=false:=rfl
 have hk3:decide ((5:Int)=3)=false:=rfl
 have hk4:decide ((5:Int)=4)=false:=rfl
 have hk5:decide ((5:Int)=5)=true:=rfl
 have hp:=eT ho
 have ho0:=fI ho
 have hO:=lJ o ho0
 have hF:=l8 o id ho0
 have hv:1<=v:=by simp [oG] at hs; exact hs.2
 obtain ⟨i,x,hi,hr⟩:=aBm (o:=o) (id:=id) (by simp [oG] at hs; exact decide_eq_true hs.1.1)
 have hxc:=fT (hp.2.2.2.2.2.2.2.2.2 x (aF hr))
 have hi0:(0:Int)<=(i:Int):=by omega
 rw [hi] at hF
 have hM0:jJ o 5 id a v=if v > 20000 - x.d then none else some { o with cs:=o.cs.set i { x with d:=x.d + v } }:=by
  unfold jJ
  rw [if_neg (by decide),if_neg (by decide),if_neg (by decide),hi,aB,hr]
  simp
 have hgn:(dl Cs.s o.cs).nth i=some (x.p (.sl false 1 (dl iD x.h))):=by rw [dC,hr]; rfl
 have hgs:∀ (y:D),((dl Cs.s o.cs).setN i y).nth i=some y:=fun y=>by rw [rB,if_pos rfl,hgn]; rfl
 have hfx:∀ K:SV->Prop,dL 2 2 (.d (.ptr x.s)) K=K (.d (.ptr (.int .i64 x.d))):=fun K=>vR
 have hfx':∀ K:SV->Prop,dL 2 2 (.d (.ptr (x.p (.sl false 1 (dl iD x.h))))) K=K (.d (.ptr (.int .i64 x.d))):=fun K=>vR
 cases hd:decide (20000 - x.d < v) with
 | true =>
  have hM:jJ o 5 id a v=none:=by rw [hM0,if_pos (of_decide_eq_true hd)]
  refine c7 mK [[1,0],[1,0]] ?_
  dsimp only [mK,cY,dD]
  simp only [lG]
  repeat' (first|(simp only [aZw,aZx,cM,↓wA,↓wC,wB,cQ,cP,bP,bQ,bR,reduceIte,reduceCtorEq,aA,bT,dJ])|((first|apply cJ|apply cK|apply cI)<;>intro h<;>try simp only [h]))
  refine dF (iV 0 rfl) ?_
  simp only [cQ,cP,aZv,↓wA,↓wC,wB,cQ,cP,bP,bQ,bR,reduceIte,reduceCtorEq,aA,bT,dJ]
  refine dF (iV 1 rfl) ?_
  simp only [cQ,cP,D.unown,↓wA,↓wC,wB,cQ,cP,bP,bQ,bR,reduceIte,reduceCtorEq,aA,bT,dJ]
  have hf0:∀ K:SV->Prop,dL 0 0 (.d (.ptr o.s)) K=K (.d (.ptr (.int .i64 o.day))):=fun K=>by simp [Off.s,d5,dL,D.pre,D.nth,D.size]
  have hf1:∀ K:SV->Prop,dL 1 1 (.d (.ptr o.s)) K=K (.d (.ptr (.sl false 4 (dl Cs.s o.cs)))):=fun K=>by simp [Off.s,d5,dL,D.pre,D.nth,D.size]
  repeat' (first|(simp only [hk1,hk2,hk3,hk4,hk5,aZw,aZx,aZB,Off.w,d5,c8,cZ,hf0,hf1,hd,↓dK,cM,dZ,aB,aC,cU,dC,hi0,hr,hfx,dB,↓wA,↓wC,wB,cQ,cP,bP,bQ,bR,reduceIte,reduceCtorEq,aA,bT,dJ])|(refine dN ?_)|(with_reducible refine aJ ?_ ?_)|(refine cO hO (by simp [dH,dQ,aZv]) rfl ?_)|(refine cO hF (by simp [dH,dQ,aZv]) rfl ?_)|(with_reducible refine cV ?_ ?_; focus (simp only [eA]; omega))|((first|apply cJ|apply cK|apply cI)<;>intro h<;>try simp only [h]))
  all_goals exact aBf o hM rfl
 | false =>
  have hd':=of_decide_eq_false hd
  have hM:jJ o 5 id a v=some { o with cs:=o.cs.set i { x with d:=x.d + v } }:=by rw [hM0,if_neg (of_decide_eq_false hd)]
  have hG:=gT _ (tW ho hM)
  have hset:(dl Cs.s o.cs).setN i (Cs.p { x with d:=x.d + v } (.sl false 1 (dl iD x.h)))=dl Cs.s (o.cs.set i { x with d:=x.d + v }):=by
   have e:Cs.p { x with d:=x.d + v } (.sl false 1 (dl iD x.h))=Cs.s { x with d:=x.d + v }:=rfl
   rw [e,kZ]
  have hu:(D.st (.cons (.int .i64 o.day) (.cons (.sl true 4 (dl Cs.s (o.cs.set i { x with d:=x.d + v }))) (.cons (.int .i64 o.kept) (.cons (.int .i64 o.moved) (.cons (.sl true 1 (dl D.str o.led)) .nil)))))).unown=Off.s { o with cs:=o.cs.set i { x with d:=x.d + v } }:=aZJ { o with cs:=o.cs.set i { x with d:=x.d + v } }
  refine c7 mK [[1,1,1,0,1,0,1,1,1,1,1,1,1,1,1,0,1],[1,1,1,1,0],[1,0],[1,0]] ?_
  dsimp only [mK,cY,dD]
  simp only [lG]
  repeat' (first|(simp only [aZw,aZx,cM,↓wA,↓wC,wB,cQ,cP,bP,bQ,bR,reduceIte,reduceCtorEq,aA,bT,dJ])|((first|apply cJ|apply cK|apply cI)<;>intro h<;>try simp only [h]))
  refine dF (iV 0 rfl) ?_
  simp only [cQ,cP,aZv,↓wA,↓wC,wB,cQ,cP,bP,bQ,bR,reduceIte,reduceCtorEq,aA,bT,dJ]
  refine dF (iV 1 rfl) ?_
  simp only [cQ,cP,D.unown,↓wA,↓wC,wB,cQ,cP,bP,bQ,bR,reduceIte,reduceCtorEq,aA,bT,dJ]
  have hf0:∀ K:SV->Prop,dL 0 0 (.d (.ptr o.s)) K=K (.d (.ptr (.int .i64 o.day))):=fun K=>by simp [Off.s,d5,dL,D.pre,D.nth,D.size]
  have hf1:∀ K:SV->Prop,dL 1 1 (.d (.ptr o.s)) K=K (.d (.ptr (.sl false 4 (dl Cs.s o.cs)))):=fun K=>by simp [Off.s,d5,dL,D.pre,D.nth,D.size]
  repeat' (first|(simp only [hk1,hk2,hk3,hk4,hk5,aZw,aZx,aZB,Off.w,d5,c8,cZ,hf0,hf1,hd,↓dK,cM,dZ,aB,aC,cU,dC,hi0,hr,hfx,dB,↓wA,↓wC,wB,cQ,cP,bP,bQ,bR,reduceIte,reduceCtorEq,aA,bT,dJ])|(refine dN ?_)|(with_reducible refine aJ ?_ ?_)|(refine cO hO (by simp [dH,dQ,aZv]) rfl ?_)|(refine cO hF (by simp [dH,dQ,aZv]) rfl ?_)|(with_reducible refine cV ?_ ?_; focus (simp only [eA]; omega))|((first|apply cJ|apply cK|apply cI)<;>intro h<;>try simp only [h]))
  refine fG _ (f8 4 none [1] (es:=4) (xs:=dl Cs.s o.cs) rfl rfl) fun v1=>?_
  simp only [eS,↓wA,↓wC,wB,cQ,cP,bP,bQ,bR,reduceIte,reduceCtorEq,aA,bT,dJ]
  repeat' (first|(simp only [hk1,hk2,hk3,hk4,hk5,aZw,aZx,aZB,Off.w,d5,c8,cZ,hf0,hf1,hd,↓dK,cM,dZ,aB,aC,cU,hi0,hr,hfx,hfx',hgn,hgs,dB,nC,nB,m9,hset,↓wA,↓wC,wB,cQ,cP,bP,bQ,bR,reduceIte,reduceCtorEq,aA,bT,dJ])|(refine dN ?_)|(with_reducible refine aJ ?_ ?_)|(refine cO hO (by simp [dH,dQ,aZv]) rfl ?_)|(refine cO hF (by simp [dH,dQ,aZv]) rfl ?_)|(with_reducible refine cV ?_ ?_; focus (simp only [eA]; omega))|((first|apply cJ|apply cK|apply cI)<;>intro h<;>try simp only [h]))
  refine dF (i7 4 6 5 none [1] rfl rfl rfl rfl (by decide) rfl) ?_
  simp only [eS,↓wA,↓wC,wB,cQ,cP,bP,bQ,bR,reduceIte,reduceCtorEq,aA,bT,dJ]
  repeat' (first|(simp only [hk1,hk2,hk3,hk4,hk5,aZw,aZx,aZB,Off.w,d5,c8,cZ,hf0,hf1,hd,↓dK,cM,dZ,aB,aC,cU,↓wA,↓wC,wB,cQ,cP,bP,bQ,bR,reduceIte,reduceCtorEq,aA,bT,dJ])|(refine dN ?_)|(with_reducible refine aJ ?_ ?_)|(refine cO hO (by simp [dH,dQ,aZv]) rfl ?_)|(refine cO hF (by simp [dH,dQ,aZv]) rfl ?_)|(with_reducible refine cV ?_ ?_; focus (simp only [eA]; omega))|(refine cO hG (congrArg (fun d:D=>some [d]) hu) rfl ?_)|(refine cR hG (congrArg (fun d:D=>some [d]) hu) rfl ?_)|((first|apply cJ|apply cK|apply cI)<;>intro h<;>try simp only [h]))
  all_goals exact vN hM rfl rfl
theorem aJ8 (o:Off) (k id a v:Int) (ho:dV o=true) (hs:oG o k id a v=true):Fn prog 139 [o.s,lG k id a v] (MkR o k id a v):=by
 by_cases h1:k=1
 ·subst h1; exact aPp o id a v ho hs
 by_cases h2:k=2
 ·subst h2; exact aQb o id a v ho hs
 by_cases h3:k=3
 ·subst h3; exact aPf o id a v ho hs
 by_cases h4:k=4
 ·subst h4; exact aPg o id a v ho hs
 by_cases h5:k=5
 ·subst h5; exact aN7 o id a v ho hs
 have h6:k=6:=by
  unfold oG at hs
  rw [if_neg h1,if_neg h2,if_neg h3,if_neg h4,if_neg h5] at hs
  simp only [aG,decide_eq_true_eq] at hs
  exact hs.1.1.1
 subst h6; exact aP1 o id a v ho hs
def sD (o:Off) (k id a v:Int):Off:=(iO o k id a v).getD aCr
def pT (o:Off) (k id a v:Int):Bool:=(iO o k id a v).isSome
theorem uQ (o:Off) (k id a v:Int) (ho:o.ok0):Fn prog 96 [o.s,lG k id a v] (fun rs=>rs=[(sD o k id a v).w,.bool (pT o k id a v)]):=by
 have hG:=gT o ho
 have hS:=aKK o k id a v ho
 have hE:=aPY o k id a v
 cases hv:dV o with
 | false =>
  have hR:iO o k id a v=none:=by rw [<- hE]; unfold aIi; rw [hv]; rfl
  rw [hv] at hG
  have hX:sD o k id a v=aCr:=by unfold sD; rw [hR]; rfl
  have hY:pT o k id a v=false:=by unfold pT; rw [hR]; rfl
  rw [hX,hY]
  refine c7 aMh [] ?_
  dsimp only [aMh,cY,dD]
  simp only [lG]
  repeat' (first|(simp only [aZw,aZx,aZB,↓dK,cM,↓wA,↓wC,wB,cQ,cP,bP,bQ,bR,reduceIte,reduceCtorEq,aA,bT,dJ])|(refine cO hG (by simp [dH,dQ,aZv]) rfl ?_)|((first|apply cJ|apply cK|apply cI)<;>intro h<;>try simp only [h]))
  all_goals rfl
 | true =>
  rw [hv] at hG
  cases hb:oG o k id a v with
  | false =>
   have hR:iO o k id a v=none:=by rw [<- hE]; unfold aIi; rw [hv,hb]; rfl
   rw [hb] at hS
   have hX:sD o k id a v=aCr:=by unfold sD; rw [hR]; rfl
   have hY:pT o k id a v=false:=by unfold pT; rw [hR]; rfl
   rw [hX,hY]
   refine c7 aMh [] ?_
   dsimp only [aMh,cY,dD]
   simp only [lG] at hS ⊢
   repeat' (first|(simp only [aZw,aZx,aZB,↓dK,cM,↓wA,↓wC,wB,cQ,cP,bP,bQ,bR,reduceIte,reduceCtorEq,aA,bT,dJ])|(refine cO hG (by simp [dH,dQ,aZv]) rfl ?_)|(refine cO hS (by simp [dH,dQ,aZv]) rfl ?_)|((first|apply cJ|apply cK|apply cI)<;>intro h<;>try simp only [h]))
   all_goals rfl
  | true =>
   have hR:iO o k id a v=yT o k id a v:=by rw [<- hE]; unfold aIi; rw [hv,hb]; rfl
   rw [hb] at hS
   have hM:=aJ8 o k id a v hv hb
   refine c7 aMh [] ?_
   dsimp only [aMh,cY,dD]
   simp only [lG] at hS hM ⊢
   repeat' (first|(simp only [aZw,aZx,aZB,↓dK,cM,↓wA,↓wC,wB,cQ,cP,bP,bQ,bR,reduceIte,reduceCtorEq,aA,bT,dJ])|(refine cO hG (by simp [dH,dQ,aZv]) rfl ?_)|(refine cO hS (by simp [dH,dQ,aZv]) rfl ?_)|((first|apply cJ|apply cK|apply cI)<;>intro h<;>try simp only [h]))
   refine tH hM (by simp [dH,dQ,aZv]) fun rs h=>?_
   obtain ⟨q,rfl,hq⟩:=h
   have hwV:q.w.isV=true:=rfl
   have hwS:q.w.size=5:=rfl
   refine ⟨.inl rfl,?_⟩
   unfold sD pT
   rw [hR]
   cases hm:yT o k id a v with
   | none =>
    repeat' (first|(simp only [aZM,hwV,hwS,cM,Option.isSome_none,↓wA,↓wC,wB,cQ,cP,bP,bQ,bR,reduceIte,reduceCtorEq,aA,bT,dJ])|((first|apply cJ|apply cK|apply cI)<;>intro h<;>try simp only [h]))
    all_goals rfl
   | some q' =>
    obtain rfl:=hq q' hm
    repeat' (first|(simp only [aZM,hwV,hwS,cM,Option.isSome_some,↓wA,↓wC,wB,cQ,cP,bP,bQ,bR,reduceIte,reduceCtorEq,aA,bT,dJ])|((first|apply cJ|apply cK|apply cI)<;>intro h<;>try simp only [h]))
    all_goals exact cW rfl (eY _ rfl (cW rfl (cW rfl (cW rfl rfl))))
theorem aGP (o:Off) (k id a v:Int) (ho:o.ok0):Fn prog 96 [o.s,lG k id a v] (fun rs=>rs=[(sD o k id a v).s,.bool (pT o k id a v)]):=by
 simpa [D.unown,aZJ] using fE (uQ o k id a v ho)
theorem aZZ (s:Stp):s.d.isV=true:=rfl
theorem aZW (s:Stp):s.d.size=4:=rfl
def zS:D:=lG 0 0 0 0
def os:Option Stp->D
 | some x=>x.d
 | none=>zS
end Go.Pe.Tryz
namespace Go.Pe.Tryz
def nI (b:UInt8):Bool:=decide (48<=b.toNat) && decide (b.toNat<=57)
def wD (s:List UInt8):Int:=s.foldl (fun n b=>10 * n + ((b.toNat:Int) - 48)) 0
theorem xL (s:List UInt8) (b:UInt8):wD (s ++ [b])=10 * wD s + ((b.toNat:Int) - 48):=by
 unfold wD
 rw [List.foldl_append]; rfl
theorem aDZ:∀ u:Nat,wD (Lib.decDigits u)=(u:Int):=by
 intro u
 induction u using Nat.strongRecOn with
 | _ u ih =>
  have one:∀ d:Nat,d < 10->(UInt8.ofNat (48 + d)).toNat=48 + d:=fun d hd=>by
   rw [UInt8.toNat_ofNat']; omega
  rw [Lib.decDigits]
  by_cases h:u < 10
  ·rw [dif_pos h]
   have:=xL [] (UInt8.ofNat (48 + u))
   rw [bC] at this
   rw [this,one u h]
   show 10 * (0:Int) + _=_
   omega
  ·rw [dif_neg h,xL,ih (u / 10) (by omega),one (u % 10) (by omega)]
   omega
theorem aAS:∀ (k u:Nat),u < 10 ^ (k + 1)->(Lib.decDigits u).length<=k + 1
 | 0,u,h=>by
  rw [Lib.decDigits,dif_pos (by simpa using h)]; simp
 | k + 1,u,h=>by
  rw [Lib.decDigits]
  by_cases iY:u < 10
  ·rw [dif_pos iY]; simp
  ·rw [dif_neg iY]
   have:=aAS k (u / 10) (by rw [Nat.pow_succ] at h; omega)
   simp only [aU,List.length_singleton]; omega
theorem aGh (u:Nat):(Lib.decDigits u).all nI=true:=by
 rw [aL]
 intro b hb
 have:=m4 u b hb
 simp only [nI,aG,decide_eq_true_eq]
 exact this
theorem aAl (u:Nat):Lib.itoa (u:Int)=Lib.decDigits u:=by
 unfold Lib.itoa
 rw [if_neg (by omega)]; simp
theorem aAy (u:Nat) (h:0 < u):Lib.itoa (-(u:Int))=45 :: Lib.decDigits u:=by
 unfold Lib.itoa
 rw [if_pos (by omega)]; simp
theorem aLh:∀ (n:Nat) (s:List UInt8),s.length=n->s.all nI=true->0<=wD s/\wD s < 10 ^ n:=by
 intro n
 induction n with
 | zero =>
  intro s hs _
  obtain rfl:=List.eq_nil_of_length_eq_zero hs
  exact ⟨Int.le_refl _,by decide⟩
 | succ n ih =>
  intro s hs ha
  rcases List.eq_nil_or_concat s with rfl|⟨u,b,rfl⟩
  ·simp at hs
  ·rw [List.concat_eq_append] at *
   rw [List.all_append,aG] at ha
   have hb:nI b=true:=by simpa using ha.2
   simp only [nI,aG,decide_eq_true_eq] at hb
   have h:=ih u (by simpa using hs) ha.1
   rw [xL,Int.pow_succ]
   omega
theorem aFH (x:UInt8) (a t:List UInt8) (h:x ∉ a):∀ j,j<=t.length->spl x (a ++ x :: t) (a.length + 1 + j)=(a :: (spl x t j).1,a.length + 1 + (spl x t j).2)
 | 0,_=>by
  have hi:=aAg x (a ++ x :: t) a.length (by simp)
  rcases hi with ⟨h1,h2,_⟩|⟨h1,_⟩
  ·have hx:(a ++ x :: t)[a.length]?=some x:=by simp
   rw [bL,aBH hx,if_pos rfl,h1,h2]
   simp [spl]
  ·exfalso
   -- nothing is done dA the first byte x
   have hz:∀ k,k<=a.length->(spl x (a ++ x :: t) k).1=[]:=by
    intro k
    induction k with
    | zero=>intro _; rfl
    | succ k ih =>
     intro hk
     have hk':k < a.length:=hk
     have hc:(a ++ x :: t)[k]?=some a[k]:=by rw [List.getElem?_append_left hk',List.getElem?_eq_getElem hk']
     rw [aBH hc,if_neg (fun e:a[k]=x=>h (e ▸ List.getElem_mem hk')),ih (by omega)]
   rw [hz a.length (aI _)] at h1
   simp at h1
 | j + 1,hj=>by
  have ih:=aFH x a t h j (by omega)
  have hjl:j < t.length:=hj
  have hc:(a ++ x :: t)[a.length + 1 + j]?=some t[j]:=by
   rw [List.getElem?_append_right (by omega),show a.length + 1 + j - a.length=j + 1 by omega]
   simp [List.getElem?_eq_getElem hjl]
  have hc':t[j]?=some t[j]:=List.getElem?_eq_getElem hjl
  rw [show a.length + 1 + (j + 1)=(a.length + 1 + j) + 1 by omega,aBH hc,aBH hc',ih]
  have e1:(a ++ x :: t).take (a.length + 1 + j)=a ++ x :: t.take j:=by
   rw [List.take_append,aN (by omega),show a.length + 1 + j - a.length=j + 1 by omega,List.take_succ_cons]
  have e2:∀ p,(a ++ x :: t.take j).drop (a.length + 1 + p)=(t.take j).drop p:=fun p=>by
   rw [bH,<-bE,bD rfl,bM 1 p,aT]
  split
  ·simp only [e1,e2,aP]
   rfl
  ·rfl
theorem zY {x:UInt8} {a t:List UInt8} (h:x ∉ a):parts x (a ++ x :: t)=a :: parts x t:=by
 unfold parts
 have e:=aFH x a t h t.length (aI _)
 have hl:(a ++ x :: t).length=a.length + 1 + t.length:=by simp; omega
 rw [hl,e]
 have e2:∀ p,(a ++ x :: t).drop (a.length + 1 + p)=t.drop p:=fun p=>by
  rw [bH,<-bE,bD rfl,bM 1 p,aT]
 simp only [e2,aP]
theorem zE {x:UInt8} {s:List UInt8} (h:x ∉ s):parts x s=[s]:=by
 unfold parts
 rcases aAg x s s.length (aI _) with ⟨h1,h2,_⟩|⟨_,h2⟩
 ·rw [h1,h2]; rfl
 ·exact absurd h2 h
def rdS (s:List UInt8):Bool:=decide (1 < s.length) && (s.head? == some 45)
def mG (s:List UInt8):List UInt8:=if rdS s=true then s.drop 1 else s
def rdV (s:List UInt8):Int:=if rdS s=true then -(wD (mG s)) else wD (mG s)
def lP (s:List UInt8):Option Int:=if 1<=(mG s).length/\(mG s).length<=6/\(mG s).all nI=true/\Lib.itoa (rdV s)=s then some (rdV s) else none
theorem aGQ {s:List UInt8} (h1:(mG s).length<=6) (h2:(mG s).all nI=true):-999999<=rdV s/\rdV s<=999999:=by
 have hb:=aLh (mG s).length (mG s) rfl h2
 have:(10:Int) ^ (mG s).length<=10 ^ 6:=by
  have h7:(10:Nat) ^ (mG s).length<=10 ^ 6:=bA (by decide) h1
  exact_mod_cast h7
 have e:(10:Int) ^ 6=1000000:=by decide
 unfold rdV
 split<;>omega
theorem aJs {n:Int} (h0:-999999<=n) (h1:n<=999999):lP (Lib.itoa n)=some n:=by
 by_cases hn:0<=n
 ·obtain ⟨u,rfl⟩:=aZ hn
  rw [aAl]
  have hs:rdS (Lib.decDigits u)=false:=by
   unfold rdS
   cases hd:Lib.decDigits u with
   | nil=>rfl
   | cons b r =>
    have:=m4 u b (by rw [hd]; simp)
    have hb:b≠45:=fun e=>by rw [e] at this; revert this; decide
    simp [hb]
  have hu:mG (Lib.decDigits u)=Lib.decDigits u:=by unfold mG; rw [if_neg (by rw [hs]; decide)]
  have hv:rdV (Lib.decDigits u)=(u:Int):=by unfold rdV; rw [if_neg (by rw [hs]; decide),hu,aDZ]
  unfold lP
  rw [hv,hu,if_pos ⟨aK.2 (n6 u),aAS 5 u (by omega),aGh u,aAl u⟩]
 ·obtain ⟨u,rfl⟩:∃ u:Nat,n=-(u:Int):=⟨n.natAbs,by omega⟩
  rw [aAy u (by omega)]
  have hs:rdS (45 :: Lib.decDigits u)=true:=by
   have:=aK.2 (n6 u)
   simp only [rdS,aD,List.head?_cons,beq_self_eq_true,bJ,decide_eq_true_eq]
   omega
  have hu:mG (45 :: Lib.decDigits u)=Lib.decDigits u:=by unfold mG; rw [if_pos hs]; rfl
  have hv:rdV (45 :: Lib.decDigits u)=-(u:Int):=by unfold rdV; rw [if_pos hs,hu,aDZ]
  unfold lP
  rw [hv,hu,if_pos ⟨aK.2 (n6 u),aAS 5 u (by omega),aGh u,aAy u (by omega)⟩]
theorem vD {s:List UInt8} {n:Int} (h:lP s=some n):Lib.itoa n=s/\-999999<=n/\n<=999999:=by
 unfold lP at h
 split at h
 ·rename_i hc
  injection h with h
  subst h
  exact ⟨hc.2.2.2,aGQ hc.2.1 hc.2.2.1⟩
 ·cases h
end Go.Pe.Tryz
namespace Go.Pe.Tryz
open Go.Proofs.Tryz Go.Sort
theorem aBM {s:List UInt8} {i:Nat} {b:UInt8} (hb:s[i]?=some b):wD (s.take (i + 1))=10 * wD (s.take i) + ((b.toNat:Int) - 48):=by
 have hi:=c6 hb
 have:s.take (i + 1)=s.take i ++ [b]:=by
  rw [List.take_succ_eq_append_getElem hi]
  rw [List.getElem?_eq_getElem hi] at hb
  injection hb with hb
  rw [hb]
 rw [this,xL]
theorem nT {s:List UInt8} {i:Nat} (hi:i<=s.length) (h7:s.length<=7) (ha:∀ j b,j < i->s[j]?=some b->nI b=true):0<=wD (s.take i)/\wD (s.take i) < 10000000:=by
 have hal:(s.take i).all nI=true:=aL.2 fun b hb=>by
  obtain ⟨j,hj⟩:=List.getElem?_of_mem hb
  rw [List.getElem?_take] at hj
  split at hj
  ·exact ha j b (by assumption) hj
  ·cases hj
 have hb:=aLh (s.take i).length (s.take i) rfl hal
 have:(10:Int) ^ (s.take i).length<=10 ^ 7:=by
  have h7:(10:Nat) ^ (s.take i).length<=10 ^ 7:=bA (by decide) (by rw [aQ]; omega)
  exact_mod_cast h7
 have e:(10:Int) ^ 7=10000000:=by decide
 omega
theorem aBJ (n:Int) (h:-1000000000<=n) (h1:n<=1000000000):Fn prog 49 [.int .i64 n] (fun rs=>rs=[.str (Lib.itoa n)]):=by
 by_cases h0:0<=n
 ·exact eW n h0 (by simp only [eA]; omega)
 ·have hN:=eW (-n) (by omega) (by simp only [eA]; omega)
  have hd:decide (n < 0)=true:=decide_eq_true (by omega)
  obtain ⟨u,hu⟩:∃ u:Nat,n=-(u:Int):=⟨n.natAbs,by omega⟩
  have hi:Lib.itoa n=45 :: Lib.itoa (-n):=by
   rw [hu,aAy u (by omega),Int.neg_neg,aAl]
  have hle:=eJ (-n) (by simp only [eA]; omega)
  rw [hi]
  refine c7 aRL [] ?_
  dsimp only [aRL,cY,dD]
  repeat' (first|(simp only [hd,↓wA,↓wC,wB,cQ,cP,bP,bQ,bR,reduceIte,reduceCtorEq,aA,bT])|(refine cO (hN) rfl rfl ?_)|(refine cR (hN) rfl rfl ?_)|(refine cR hN rfl rfl ?_)|(with_reducible refine cV ?_ ?_; focus (simp only [eA]; omega))|(with_reducible refine cW ?_ ?_; focus ((try simp only [aD,aE]); omega))|((first|apply cJ|apply cK|apply cI)<;>intro h<;>try simp only [h]))
  all_goals rfl
def rdR (s:List UInt8):List D:=match lP s with
 | some n=>[.int .i64 n,.bool true]
 | none=>[.int .i64 0,.bool false]
theorem oB {s:List UInt8} (h:¬ (1<=(mG s).length/\(mG s).length<=6/\(mG s).all nI=true/\Lib.itoa (rdV s)=s)):rdR s=[.int .i64 0,.bool false]:=by
 unfold rdR lP; rw [if_neg h]
theorem aEd {s:List UInt8} (h:1<=(mG s).length/\(mG s).length<=6/\(mG s).all nI=true/\Lib.itoa (rdV s)=s):rdR s=[.int .i64 (rdV s),.bool true]:=by
 unfold rdR lP; rw [if_pos h]
theorem aJd {s:List UInt8} (h:rdS s=true):∃ t,s=45 :: t/\t≠[]:=by
 unfold rdS at h
 cases s with
 | nil=>simp at h
 | cons b t =>
  simp only [aD,List.head?_cons,aG,decide_eq_true_eq,beq_iff_eq,Option.some.injEq] at h
  exact ⟨t,by rw [h.2],fun e=>by rw [e] at h; simp at h⟩
theorem aME {s:List UInt8} (h:rdS s=false):s.length<=1\/∃ b t,s=b :: t/\t≠[]/\decide ((b.toNat:Int)=45)=false:=by
 cases s with
 | nil=>left; simp
 | cons b t =>
  by_cases ht:t=[]
  ·left; rw [ht]; simp
  ·right
   refine ⟨b,t,rfl,ht,decide_eq_false fun e=>?_⟩
   have hb:b=45:=UInt8.toNat_inj.1 (by have:(45:UInt8).toNat=45:=rfl; omega)
   have:=aK.2 ht
   unfold rdS at h
   rw [hb] at h
   simp only [aD,List.head?_cons,beq_self_eq_true,bJ,decide_eq_false_iff_not] at h
   omega
theorem aYl (s:List UInt8):decide (((mG s).length:Int) < (s.length:Int))=rdS s:=by
 cases h:rdS s with
 | true =>
  obtain ⟨t,rfl,ht⟩:=aJd h
  unfold mG
  rw [if_pos h]
  exact decide_eq_true (by simp only [aT,bF,aD]; omega)
 | false =>
  unfold mG
  rw [if_neg (by rw [h]; decide)]
  exact decide_eq_false (by omega)
theorem aM5 (s:List UInt8) (hl:s.length<=100000000):Fn prog 118 [.str s] (fun rs=>rs=rdR s):=by
 have hlt:=aYl s
 have hV:rdV s=if rdS s=true then -(wD (mG s)) else wD (mG s):=rfl
 cases hS:rdS s with
 | true =>
  rw [hS] at hlt hV
  obtain ⟨t,rfl,ht⟩:=aJd hS
  have hU:t=mG (45 :: t):=by unfold mG; rw [if_pos hS]; rfl
  have hps:=aK.2 ht
  simp only [aD] at hl
  have d1:decide ((1:Int) < ((t.length + 1:Nat):Int))=true:=decide_eq_true (by omega)
  have d1':(45 :: t:List UInt8)[(0:Int).toNat]?=some 45:=rfl
  have d1'':decide (((45:UInt8).toNat:Int)=45)=true:=rfl
  have hdr:(45 :: t:List UInt8).drop (1:Int).toNat=t:=rfl
  refine c7 aF9 [[1,1,1,0,0]] ?_
  dsimp only [aF9,cY,dD]
  repeat' (first|(simp only [cM,d1,d1',d1'',hdr,↓wA,↓wC,wB,cQ,cP,bP,bQ,bR,reduceIte,reduceCtorEq,aA,bT])|(with_reducible refine cW ?_ ?_; focus omega)|((first|apply cJ|apply cK|apply cI)<;>intro h<;>try simp only [h]))
  refine dF (s':=⟨[(0,.d (.str (45 :: t))),(4,.d (.str (mG (45 :: t))))],[]⟩) (cX [] rfl ⟨⟨rfl,rfl⟩,⟨congrArg (fun x=>SV.d (.str x)) hU,rfl⟩,trivial⟩) ?_
  generalize hs:(45 :: t:List UInt8)=s at *
  clear hU
  have hW:=jL ((mG s).length:Int) 1 6
  cases hw:dE ((mG s).length:Int) 1 6 with
  | false =>
   rw [hw] at hW
   rw [oB (fun h=>by
    have:dE ((mG s).length:Int) 1 6=true:=by simp only [dE,aG,decide_eq_true_eq]; omega
    rw [hw] at this; cases this)]
   repeat' (first|(simp only [↓wA,↓wC,wB,cQ,cP,bP,bQ,bR,reduceIte,reduceCtorEq,aA,bT])|(refine cO (hW) rfl rfl ?_)|(refine cR (hW) rfl rfl ?_)|((first|apply cJ|apply cK|apply cI)<;>intro h<;>try simp only [h]))
  | true =>
   rw [hw] at hW
   have hwl:1<=(mG s).length/\(mG s).length<=6:=by
    simp only [dE,aG,decide_eq_true_eq] at hw; omega
   repeat' (first|(simp only [↓wA,↓wC,wB,cQ,cP,bP,bQ,bR,reduceIte,reduceCtorEq,aA,bT])|(refine cO (hW) rfl rfl ?_)|(refine cR (hW) rfl rfl ?_)|((first|apply cJ|apply cK|apply cI)<;>intro h<;>try simp only [h]))
   refine dU (mG s).length (fun i:Nat=>⟨[(0,.d (.str s)),(4,.d (.str (mG s))),(5,.d (.int .i64 (wD ((mG s).take i)))),(6,.d (.int .i64 i))],[]⟩) (fun i=>∀ j b,j < i->(mG s)[j]?=some b->nI b=true) (cX _ rfl ⟨⟨rfl,rfl⟩,⟨rfl,rfl⟩,⟨rfl,rfl⟩,⟨rfl,rfl⟩,trivial⟩) (fun j r hj=>by omega) ?_ ?_
   ·intro i hlti hinv hd2 hi0
    obtain ⟨b,hb⟩:=dS hlti
    have hbd:=nT (i:=i) (by omega) (by omega) (fun j c hj hc=>hinv j c hj hc)
    have hst:=aBM hb
    have hno:nI b=false->rdR s=[.int .i64 0,.bool false]:=fun h=>oB fun hh=>by
     have:=aL.1 hh.2.2.1 b (aF hb)
     rw [h] at this; cases this
    by_cases h48:48<=b.toNat
    ·have e48:decide ((b.toNat:Int) < 48)=false:=decide_eq_false (by omega)
     by_cases h57:b.toNat<=57
     ·have e57:decide ((57:Int) < (b.toNat:Int))=false:=decide_eq_false (by omega)
      repeat' (first|(simp only [hd2,hi0,hb,e48,e57,aB,cM,↓wA,↓wC,wB,cQ,cP,bP,bQ,bR,reduceIte,reduceCtorEq,aA,bT])|(with_reducible refine cV ?_ ?_; focus (simp only [eA]; omega))|((first|apply cJ|apply cK|apply cI)<;>intro h<;>try simp only [h]))
      all_goals
       refine fZ (cX _ rfl ⟨⟨rfl,rfl⟩,⟨rfl,rfl⟩,⟨congrArg (fun n=>SV.d (.int .i64 n)) hst.symm,rfl⟩,⟨rfl,rfl⟩,trivial⟩) hlti fun j c hj hc=>?_
       by_cases e:j=i
       ·subst e; rw [hb] at hc; injection hc with hc; rw [<- hc]; simp [nI,h48,h57]
       ·exact hinv j c (by omega) hc
     ·have e57:decide ((57:Int) < (b.toNat:Int))=true:=decide_eq_true (by omega)
      rw [hno (by simp [nI,h57])]
      repeat' (first|(simp only [hd2,hi0,hb,e48,e57,aB,cM,↓wA,↓wC,wB,cQ,cP,bP,bQ,bR,reduceIte,reduceCtorEq,aA,bT])|(with_reducible refine cV ?_ ?_; focus (simp only [eA]; omega))|((first|apply cJ|apply cK|apply cI)<;>intro h<;>try simp only [h]))
    ·have e48:decide ((b.toNat:Int) < 48)=true:=decide_eq_true (by omega)
     rw [hno (by simp [nI,h48])]
     repeat' (first|(simp only [hd2,hi0,hb,e48,aB,cM,↓wA,↓wC,wB,cQ,cP,bP,bQ,bR,reduceIte,reduceCtorEq,aA,bT])|(with_reducible refine cV ?_ ?_; focus (simp only [eA]; omega))|((first|apply cJ|apply cK|apply cI)<;>intro h<;>try simp only [h]))
   ·intro hinv hd2
    have hall:(mG s).all nI=true:=aL.2 fun b hb=>by
     obtain ⟨j,hj⟩:=List.getElem?_of_mem hb
     exact hinv j b (c6 hj) hj
    have hbd:=nT (s:=mG s) (i:=(mG s).length) (aI _) (by omega) (fun j c hj hc=>hinv j c hj hc)
    rw [aM] at hbd
    have hvb:=aGQ hwl.2 hall
    have hN:=aBJ (rdV s) (by omega) (by omega)
    simp only [if_true,aV,if_false] at hV
    rw [aM]
    by_cases he:Lib.itoa (rdV s)=s
    ·have de:decide (Lib.itoa (rdV s)=s)=true:=decide_eq_true he
     rw [aEd ⟨hwl.1,hwl.2,hall,he⟩]
     rw [hV] at hN de ⊢
     repeat' (first|(simp only [hd2,hlt,de,↓wA,↓wC,wB,cQ,cP,bP,bQ,bR,reduceIte,reduceCtorEq,aA,bT])|(refine cO (hN) rfl rfl ?_)|(refine cR (hN) rfl rfl ?_)|(with_reducible refine cV ?_ ?_; focus (simp only [eA]; omega))|((first|apply cJ|apply cK|apply cI)<;>intro h<;>try simp only [h]))
    ·have de:decide (Lib.itoa (rdV s)=s)=false:=decide_eq_false he
     rw [oB fun h=>he h.2.2.2]
     rw [hV] at hN de
     repeat' (first|(simp only [hd2,hlt,de,↓wA,↓wC,wB,cQ,cP,bP,bQ,bR,reduceIte,reduceCtorEq,aA,bT])|(refine cO (hN) rfl rfl ?_)|(refine cR (hN) rfl rfl ?_)|(with_reducible refine cV ?_ ?_; focus (simp only [eA]; omega))|((first|apply cJ|apply cK|apply cI)<;>intro h<;>try simp only [h]))
 | false =>
  rw [hS] at hlt hV
  have hU:s=mG s:=by unfold mG; rw [if_neg (by rw [hS]; decide)]
  rcases aME hS with h1|⟨b,t,hbt,ht,hb⟩
  ·have d1:decide ((1:Int) < (s.length:Int))=false:=decide_eq_false (by omega)
   refine c7 aF9 [[1,1,1,0,0]] ?_
   dsimp only [aF9,cY,dD]
   repeat' (first|(simp only [cM,d1,↓wA,↓wC,wB,cQ,cP,bP,bQ,bR,reduceIte,reduceCtorEq,aA,bT])|(with_reducible refine cW ?_ ?_; focus omega)|((first|apply cJ|apply cK|apply cI)<;>intro h<;>try simp only [h]))
   refine dF (s':=⟨[(0,.d (.str s)),(4,.d (.str (mG s)))],[]⟩) (cX [] rfl ⟨⟨rfl,rfl⟩,⟨congrArg (fun x=>SV.d (.str x)) hU,rfl⟩,trivial⟩) ?_
   clear hU
   have hW:=jL ((mG s).length:Int) 1 6
   cases hw:dE ((mG s).length:Int) 1 6 with
   | false =>
    rw [hw] at hW
    rw [oB (fun h=>by
     have:dE ((mG s).length:Int) 1 6=true:=by simp only [dE,aG,decide_eq_true_eq]; omega
     rw [hw] at this; cases this)]
    repeat' (first|(simp only [↓wA,↓wC,wB,cQ,cP,bP,bQ,bR,reduceIte,reduceCtorEq,aA,bT])|(refine cO (hW) rfl rfl ?_)|(refine cR (hW) rfl rfl ?_)|((first|apply cJ|apply cK|apply cI)<;>intro h<;>try simp only [h]))
   | true =>
    rw [hw] at hW
    have hwl:1<=(mG s).length/\(mG s).length<=6:=by
     simp only [dE,aG,decide_eq_true_eq] at hw; omega
    repeat' (first|(simp only [↓wA,↓wC,wB,cQ,cP,bP,bQ,bR,reduceIte,reduceCtorEq,aA,bT])|(refine cO (hW) rfl rfl ?_)|(refine cR (hW) rfl rfl ?_)|((first|apply cJ|apply cK|apply cI)<;>intro h<;>try simp only [h]))
    refine dU (mG s).length (fun i:Nat=>⟨[(0,.d (.str s)),(4,.d (.str (mG s))),(5,.d (.int .i64 (wD ((mG s).take i)))),(6,.d (.int .i64 i))],[]⟩) (fun i=>∀ j b,j < i->(mG s)[j]?=some b->nI b=true) (cX _ rfl ⟨⟨rfl,rfl⟩,⟨rfl,rfl⟩,⟨rfl,rfl⟩,⟨rfl,rfl⟩,trivial⟩) (fun j r hj=>by omega) ?_ ?_
    ·intro i hlti hinv hd2 hi0
     obtain ⟨b,hb⟩:=dS hlti
     have hbd:=nT (i:=i) (by omega) (by omega) (fun j c hj hc=>hinv j c hj hc)
     have hst:=aBM hb
     have hno:nI b=false->rdR s=[.int .i64 0,.bool false]:=fun h=>oB fun hh=>by
      have:=aL.1 hh.2.2.1 b (aF hb)
      rw [h] at this; cases this
     by_cases h48:48<=b.toNat
     ·have e48:decide ((b.toNat:Int) < 48)=false:=decide_eq_false (by omega)
      by_cases h57:b.toNat<=57
      ·have e57:decide ((57:Int) < (b.toNat:Int))=false:=decide_eq_false (by omega)
       repeat' (first|(simp only [hd2,hi0,hb,e48,e57,aB,cM,↓wA,↓wC,wB,cQ,cP,bP,bQ,bR,reduceIte,reduceCtorEq,aA,bT])|(with_reducible refine cV ?_ ?_; focus (simp only [eA]; omega))|((first|apply cJ|apply cK|apply cI)<;>intro h<;>try simp only [h]))
       all_goals
        refine fZ (cX _ rfl ⟨⟨rfl,rfl⟩,⟨rfl,rfl⟩,⟨congrArg (fun n=>SV.d (.int .i64 n)) hst.symm,rfl⟩,⟨rfl,rfl⟩,trivial⟩) hlti fun j c hj hc=>?_
        by_cases e:j=i
        ·subst e; rw [hb] at hc; injection hc with hc; rw [<- hc]; simp [nI,h48,h57]
        ·exact hinv j c (by omega) hc
      ·have e57:decide ((57:Int) < (b.toNat:Int))=true:=decide_eq_true (by omega)
       rw [hno (by simp [nI,h57])]
       repeat' (first|(simp only [hd2,hi0,hb,e48,e57,aB,cM,↓wA,↓wC,wB,cQ,cP,bP,bQ,bR,reduceIte,reduceCtorEq,aA,bT])|(with_reducible refine cV ?_ ?_; focus (simp only [eA]; omega))|((first|apply cJ|apply cK|apply cI)<;>intro h<;>try simp only [h]))
     ·have e48:decide ((b.toNat:Int) < 48)=true:=decide_eq_true (by omega)
      rw [hno (by simp [nI,h48])]
      repeat' (first|(simp only [hd2,hi0,hb,e48,aB,cM,↓wA,↓wC,wB,cQ,cP,bP,bQ,bR,reduceIte,reduceCtorEq,aA,bT])|(with_reducible refine cV ?_ ?_; focus (simp only [eA]; omega))|((first|apply cJ|apply cK|apply cI)<;>intro h<;>try simp only [h]))
    ·intro hinv hd2
     have hall:(mG s).all nI=true:=aL.2 fun b hb=>by
      obtain ⟨j,hj⟩:=List.getElem?_of_mem hb
      exact hinv j b (c6 hj) hj
     have hbd:=nT (s:=mG s) (i:=(mG s).length) (aI _) (by omega) (fun j c hj hc=>hinv j c hj hc)
     rw [aM] at hbd
     have hvb:=aGQ hwl.2 hall
     have hN:=aBJ (rdV s) (by omega) (by omega)
     simp only [if_true,aV,if_false] at hV
     rw [aM]
     by_cases he:Lib.itoa (rdV s)=s
     ·have de:decide (Lib.itoa (rdV s)=s)=true:=decide_eq_true he
      rw [aEd ⟨hwl.1,hwl.2,hall,he⟩]
      rw [hV] at hN de ⊢
      repeat' (first|(simp only [hd2,hlt,de,↓wA,↓wC,wB,cQ,cP,bP,bQ,bR,reduceIte,reduceCtorEq,aA,bT])|(refine cO (hN) rfl rfl ?_)|(refine cR (hN) rfl rfl ?_)|(with_reducible refine cV ?_ ?_; focus (simp only [eA]; omega))|((first|apply cJ|apply cK|apply cI)<;>intro h<;>try simp only [h]))
     ·have de:decide (Lib.itoa (rdV s)=s)=false:=decide_eq_false he
      rw [oB fun h=>he h.2.2.2]
      rw [hV] at hN de
      repeat' (first|(simp only [hd2,hlt,de,↓wA,↓wC,wB,cQ,cP,bP,bQ,bR,reduceIte,reduceCtorEq,aA,bT])|(refine cO (hN) rfl rfl ?_)|(refine cR (hN) rfl rfl ?_)|(with_reducible refine cV ?_ ?_; focus (simp only [eA]; omega))|((first|apply cJ|apply cK|apply cI)<;>intro h<;>try simp only [h]))
  ·have hps:=aK.2 ht
   have d1:decide ((1:Int) < (s.length:Int))=true:=decide_eq_true (by rw [hbt,aD]; omega)
   have d1':s[(0:Int).toNat]?=some b:=by rw [hbt]; rfl
   refine c7 aF9 [[1,1,1,0,0]] ?_
   dsimp only [aF9,cY,dD]
   repeat' (first|(simp only [cM,d1,d1',hb,↓wA,↓wC,wB,cQ,cP,bP,bQ,bR,reduceIte,reduceCtorEq,aA,bT])|(with_reducible refine cW ?_ ?_; focus omega)|((first|apply cJ|apply cK|apply cI)<;>intro h<;>try simp only [h]))
   refine dF (s':=⟨[(0,.d (.str s)),(4,.d (.str (mG s)))],[]⟩) (cX [] rfl ⟨⟨rfl,rfl⟩,⟨congrArg (fun x=>SV.d (.str x)) hU,rfl⟩,trivial⟩) ?_
   clear hU
   have hW:=jL ((mG s).length:Int) 1 6
   cases hw:dE ((mG s).length:Int) 1 6 with
   | false =>
    rw [hw] at hW
    rw [oB (fun h=>by
     have:dE ((mG s).length:Int) 1 6=true:=by simp only [dE,aG,decide_eq_true_eq]; omega
     rw [hw] at this; cases this)]
    repeat' (first|(simp only [↓wA,↓wC,wB,cQ,cP,bP,bQ,bR,reduceIte,reduceCtorEq,aA,bT])|(refine cO (hW) rfl rfl ?_)|(refine cR (hW) rfl rfl ?_)|((first|apply cJ|apply cK|apply cI)<;>intro h<;>try simp only [h]))
   | true =>
    rw [hw] at hW
    have hwl:1<=(mG s).length/\(mG s).length<=6:=by
     simp only [dE,aG,decide_eq_true_eq] at hw; omega
    repeat' (first|(simp only [↓wA,↓wC,wB,cQ,cP,bP,bQ,bR,reduceIte,reduceCtorEq,aA,bT])|(refine cO (hW) rfl rfl ?_)|(refine cR (hW) rfl rfl ?_)|((first|apply cJ|apply cK|apply cI)<;>intro h<;>try simp only [h]))
    refine dU (mG s).length (fun i:Nat=>⟨[(0,.d (.str s)),(4,.d (.str (mG s))),(5,.d (.int .i64 (wD ((mG s).take i)))),(6,.d (.int .i64 i))],[]⟩) (fun i=>∀ j b,j < i->(mG s)[j]?=some b->nI b=true) (cX _ rfl ⟨⟨rfl,rfl⟩,⟨rfl,rfl⟩,⟨rfl,rfl⟩,⟨rfl,rfl⟩,trivial⟩) (fun j r hj=>by omega) ?_ ?_
    ·intro i hlti hinv hd2 hi0
     obtain ⟨b,hb⟩:=dS hlti
     have hbd:=nT (i:=i) (by omega) (by omega) (fun j c hj hc=>hinv j c hj hc)
     have hst:=aBM hb
     have hno:nI b=false->rdR s=[.int .i64 0,.bool false]:=fun h=>oB fun hh=>by
      have:=aL.1 hh.2.2.1 b (aF hb)
      rw [h] at this; cases this
     by_cases h48:48<=b.toNat
     ·have e48:decide ((b.toNat:Int) < 48)=false:=decide_eq_false (by omega)
      by_cases h57:b.toNat<=57
      ·have e57:decide ((57:Int) < (b.toNat:Int))=false:=decide_eq_false (by omega)
       repeat' (first|(simp only [hd2,hi0,hb,e48,e57,aB,cM,↓wA,↓wC,wB,cQ,cP,bP,bQ,bR,reduceIte,reduceCtorEq,aA,bT])|(with_reducible refine cV ?_ ?_; focus (simp only [eA]; omega))|((first|apply cJ|apply cK|apply cI)<;>intro h<;>try simp only [h]))
       all_goals
        refine fZ (cX _ rfl ⟨⟨rfl,rfl⟩,⟨rfl,rfl⟩,⟨congrArg (fun n=>SV.d (.int .i64 n)) hst.symm,rfl⟩,⟨rfl,rfl⟩,trivial⟩) hlti fun j c hj hc=>?_
        by_cases e:j=i
        ·subst e; rw [hb] at hc; injection hc with hc; rw [<- hc]; simp [nI,h48,h57]
        ·exact hinv j c (by omega) hc
      ·have e57:decide ((57:Int) < (b.toNat:Int))=true:=decide_eq_true (by omega)
       rw [hno (by simp [nI,h57])]
       repeat' (first|(simp only [hd2,hi0,hb,e48,e57,aB,cM,↓wA,↓wC,wB,cQ,cP,bP,bQ,bR,reduceIte,reduceCtorEq,aA,bT])|(with_reducible refine cV ?_ ?_; focus (simp only [eA]; omega))|((first|apply cJ|apply cK|apply cI)<;>intro h<;>try simp only [h]))
     ·have e48:decide ((b.toNat:Int) < 48)=true:=decide_eq_true (by omega)
      rw [hno (by simp [nI,h48])]
      repeat' (first|(simp only [hd2,hi0,hb,e48,aB,cM,↓wA,↓wC,wB,cQ,cP,bP,bQ,bR,reduceIte,reduceCtorEq,aA,bT])|(with_reducible refine cV ?_ ?_; focus (simp only [eA]; omega))|((first|apply cJ|apply cK|apply cI)<;>intro h<;>try simp only [h]))
    ·intro hinv hd2
     have hall:(mG s).all nI=true:=aL.2 fun b hb=>by
      obtain ⟨j,hj⟩:=List.getElem?_of_mem hb
      exact hinv j b (c6 hj) hj
     have hbd:=nT (s:=mG s) (i:=(mG s).length) (aI _) (by omega) (fun j c hj hc=>hinv j c hj hc)
     rw [aM] at hbd
     have hvb:=aGQ hwl.2 hall
     have hN:=aBJ (rdV s) (by omega) (by omega)
     simp only [if_true,aV,if_false] at hV
     rw [aM]
     by_cases he:Lib.itoa (rdV s)=s
     ·have de:decide (Lib.itoa (rdV s)=s)=true:=decide_eq_true he
      rw [aEd ⟨hwl.1,hwl.2,hall,he⟩]
      rw [hV] at hN de ⊢
      repeat' (first|(simp only [hd2,hlt,de,↓wA,↓wC,wB,cQ,cP,bP,bQ,bR,reduceIte,reduceCtorEq,aA,bT])|(refine cO (hN) rfl rfl ?_)|(refine cR (hN) rfl rfl ?_)|(with_reducible refine cV ?_ ?_; focus (simp only [eA]; omega))|((first|apply cJ|apply cK|apply cI)<;>intro h<;>try simp only [h]))
     ·have de:decide (Lib.itoa (rdV s)=s)=false:=decide_eq_false he
      rw [oB fun h=>he h.2.2.2]
      rw [hV] at hN de
      repeat' (first|(simp only [hd2,hlt,de,↓wA,↓wC,wB,cQ,cP,bP,bQ,bR,reduceIte,reduceCtorEq,aA,bT])|(refine cO (hN) rfl rfl ?_)|(refine cR (hN) rfl rfl ?_)|(with_reducible refine cV ?_ ?_; focus (simp only [eA]; omega))|((first|apply cJ|apply cK|apply cI)<;>intro h<;>try simp only [h]))
end Go.Pe.Tryz
namespace Go.Pe.Tryz
@[reducible] def oO : List UInt8 := [119, 97, 105, 116]
@[reducible] def lL : List UInt8 := [101, 110, 116, 101, 114]
@[reducible] def p8 : List UInt8 := [104, 111, 108, 100]
@[reducible] def iA : List UInt8 := [114, 101, 108, 101, 97, 115, 101]
@[reducible] def mC : List UInt8 := [100, 101, 108, 97, 121]
@[reducible] def wF : List UInt8 := [97, 99, 116]
@[reducible] def xF : List UInt8 := [100, 97, 121]
@[reducible] def xA : List UInt8 := [100, 117, 101]
@[reducible] def iF : List UInt8 := [98, 108, 111, 99, 107, 101, 100]
@[reducible] def pW : List UInt8 := [114, 111, 111, 116]
@[reducible] def pR : List UInt8 := [104, 101, 108, 100]
@[reducible] def qG : List UInt8 := [99, 97, 115, 101]
@[reducible] def r6 : List (List UInt8 × Int) := [(oO, 1), (lL, 3), (p8, 2), (iA, 1), (mC, 2), (wF, 1), (xF, 0), (xA, 0), (iF, 0), (pW, 0), (pR, 1), (qG, 1)]
def qR:List (List UInt8)->Option (List Int)
 | []=>some []
 | w :: ws=>match lP w with
  | some n=>(qR ws).map (n :: ·)
  | none=>none
def n0 (n:List Int):Int:=n[0]?.getD 0
def n1' (n:List Int):Int:=n[1]?.getD 0
def n2' (n:List Int):Int:=n[2]?.getD 0
def nH (w:List UInt8) (n:List Int):Option Stp :=
 if w=oO then some ⟨1,0,0,n0 n⟩
 else if w=lL then some ⟨2,n0 n,n1' n,n2' n⟩
 else if w=p8 then some ⟨3,n0 n,0,n1' n⟩
 else if w=iA then some ⟨4,0,0,n0 n⟩
 else if w=mC then some ⟨5,n0 n,0,n1' n⟩
 else if w=wF then some ⟨6,n0 n,0,0⟩
 else none
def mV (l:List Int):List UInt8:=if l=[] then [110,111,110,101] else Lib.join (l.map Lib.itoa) [32]
def aCB (p:Cs->Bool) (o:Off):Option (List Int):=if dV o=true then some (nV p o.cs) else none
def aBx (n:Int) (o:Off):Option (List Int):=if (dV o && dE n 1 9)=true then some (nV (aDd n) o.cs) else none
def aFI (o:Off):Option Int:=if dV o=true/\e9 o.led=true then some (oM (o.led.map lI)) else none
def k9 (o:Off) (id:Int):Option (List UInt8):=if dV o=true/\0<=gM o.cs id then some (txt (o.cs[(gM o.cs id).toNat]?.getD ⟨0,0,0,[]⟩)) else none
def aJf (o:Off):List Int:=[o.kept,o.moved,o.led.length]
def f9 (b o:Off) (w:List UInt8) (n:List Int):Option (List UInt8) :=
 if w=oO\/w=xF then some (Lib.itoa o.day)
 else if w=iA then (aBx (n0 n) b).map mV
 else if w=wF then some (mV (aJf o))
 else if w=xA then (aCB (tK o) o).map mV
 else if w=iF then (aCB (sY o) o).map mV
 else if w=pW then (aFI o).map Lib.itoa
 else if w=pR then (aBx (n0 n) o).map mV
 else k9 o (n0 n)
def r4 (o:Off) (w:List UInt8) (ws:List (List UInt8)):Option (Off×List UInt8) :=
 match qR ws with
 | none=>none
 | some n=>if lkp r6 w=some (n.length:Int) then
   (match nH w n with
   | some s=>match iO o s.k s.i s.a s.v with
    | some q=>(f9 o q w n).map fun r=>(q,r)
    | none=>none
   | none=>(f9 o o w n).map fun r=>(o,r))
  else none
def qm:List UInt8:=[63]
def vT (l:Option (List Int)):List UInt8:=(l.map mV).getD qm
def aEg (o:Off) (id:Int):List UInt8:=(k9 o id).getD qm
def qH (o:Off) (s:Stp):Off×List UInt8 :=
 match iO o s.k s.i s.a s.v with
 | none=>(o,qm)
 | some q=>(q,if s.k=1 then Lib.itoa q.day else if s.k=4 then vT (aBx s.v o) else if s.k=6 then vT (some (aJf q)) else aEg q s.i)
def mQ (o:Off) (l:List UInt8):List UInt8 :=
 if l=xF then Lib.itoa o.day
 else if l=xA then vT (aCB (tK o) o)
 else if l=iF then vT (aCB (sY o) o)
 else if l=pW then ((aFI o).map Lib.itoa).getD qm
 else qm
def rO (o:Off) (w:List UInt8) (n:Int):Off×List UInt8 :=
 if w=oO then qH o ⟨1,0,0,n⟩
 else if w=iA then qH o ⟨4,0,0,n⟩
 else if w=wF then qH o ⟨6,n,0,0⟩
 else if w=pR then (o,vT (aBx n o))
 else if w=qG then (o,aEg o n)
 else (o,qm)
def uC (o:Off) (w:List UInt8) (n v:Int):Off×List UInt8 :=
 if w=p8 then qH o ⟨3,n,0,v⟩
 else if w=mC then qH o ⟨5,n,0,v⟩
 else (o,qm)
def qO (o:Off) (w:List UInt8) (ws:List (List UInt8)):Off×List UInt8 :=
 match qR ws with
 | none=>(o,qm)
 | some []=>(o,mQ o w)
 | some [a]=>rO o w a
 | some [a,b]=>uC o w a b
 | some [a,b,c]=>if w=lL then qH o ⟨2,a,b,c⟩ else (o,qm)
 | some _=>(o,qm)
theorem aEx {xs:List Cs} {id:Int} {x:Cs} (hx:x∈xs) (hi:x.i=id):0<=gM xs id:=by
 have h:decide (0<=gM xs id)=true:=by
  unfold gM
  rw [t7]
  exact List.any_eq_true.2 ⟨x,hx,decide_eq_true hi⟩
 exact of_decide_eq_true h
theorem aI1 {o q:Off} {k id a v:Int} (h:iO o k id a v=some q):mkO o k id a v=some q:=by
 unfold iO at h
 split at h
 ·cases hm:mkO o k id a v with
  | none=>rw [hm] at h; cases h
  | some p =>
   rw [hm] at h
   simp only [Option.filter] at h
   split at h
   ·exact h
   ·cases h
 ·cases h
theorem aPl {o q:Off} {k id a v:Int} (hk:k=2\/k=3\/k=5) (h:iO o k id a v=some q):0<=gM q.cs id:=by
 have hm:=aI1 h
 unfold mkO at hm
 by_cases k2:k=2
 ·rw [if_pos k2] at hm
  split at hm
  ·cases hm
  ·injection hm with hm
   subst hm
   exact aEx (aFP ⟨id,a,o.day + v,[]⟩ o.cs) rfl
 ·rw [if_neg k2] at hm
  split at hm
  ·cases hm
  rw [if_neg (by omega),if_neg (by omega)] at hm
  split at hm
  ·rename_i hf
   rcases nX o.cs id with ⟨_,hn⟩|⟨i,x,hi,hr,hx⟩
   ·exact absurd hf (of_decide_eq_false hn)
   ·rw [hi,aB,hr] at hm
    simp only at hm
    split at hm
    ·split at hm
     ·cases hm
     ·injection hm with hm
      subst hm
      exact aEx (x:={ x with h:=lZ v x.h }) (aCP hr) hx
    ·split at hm
     ·split at hm
      ·injection hm with hm
       subst hm
       exact aEx (x:={ x with d:=x.d + v }) (aCP hr) hx
      ·cases hm
     ·omega
  ·cases hm
theorem o7 {o q:Off} {k id a v:Int} (hk:k=2\/k=3\/k=5) (h:iO o k id a v=some q):∃ r,k9 q id=some r:=by
 unfold k9
 rw [if_pos ⟨w3 h,aPl hk h⟩]
 exact ⟨_,rfl⟩
theorem aFs {o q:Off} {a v:Int} (h:iO o 4 0 a v=some q):∃ l,aBx v o=some l:=by
 have ho:dV o=true:=by
  cases hh:dV o with
  | true=>rfl
  | false=>unfold iO at h; rw [hh] at h; cases h
 unfold aBx
 rw [ho]
 cases hw:dE v 1 9 with
 | true=>exact ⟨_,rfl⟩
 | false =>
  have hm:=aI1 h
  unfold mkO at hm
  rw [if_neg (by decide)] at hm
  split at hm
  ·cases hm
  rw [if_neg (by decide),if_pos rfl] at hm
  split at hm
  ·rename_i hc
   have hv:v < 1\/9 < v:=by
    by_cases q:1<=v/\v<=9
    ·rw [kT q.1 q.2] at hw; cases hw
    ·omega
   rw [aLL ho hv] at hc
   cases hc.2
  ·cases hm
theorem aBK:lkp r6 oO=some 1:=by decide
theorem xU:lkp r6 lL=some 3:=by decide
theorem aBE:lkp r6 p8=some 2:=by decide
theorem qY:lkp r6 iA=some 1:=by decide
theorem xO:lkp r6 mC=some 2:=by decide
theorem aGe:lkp r6 wF=some 1:=by decide
theorem aEC:lkp r6 xF=some 0:=by decide
theorem aEF:lkp r6 xA=some 0:=by decide
theorem oY:lkp r6 iF=some 0:=by decide
theorem y7:lkp r6 pW=some 0:=by decide
theorem aAe:lkp r6 pR=some 1:=by decide
theorem zL:lkp r6 qG=some 1:=by decide
theorem aVn (n:List Int):nH oO n=some ⟨1,0,0,n0 n⟩:=rfl
theorem aLw (n:List Int):nH lL n=some ⟨2,n0 n,n1' n,n2' n⟩:=rfl
theorem aQa (n:List Int):nH p8 n=some ⟨3,n0 n,0,n1' n⟩:=rfl
theorem aFS (n:List Int):nH iA n=some ⟨4,0,0,n0 n⟩:=rfl
theorem aLq (n:List Int):nH mC n=some ⟨5,n0 n,0,n1' n⟩:=rfl
theorem aXu (n:List Int):nH wF n=some ⟨6,n0 n,0,0⟩:=rfl
theorem aPi (n:List Int):nH xF n=none:=rfl
theorem aQc (n:List Int):nH xA n=none:=rfl
theorem aBG (n:List Int):nH iF n=none:=rfl
theorem aKs (n:List Int):nH pW n=none:=rfl
theorem aKm (n:List Int):nH pR n=none:=rfl
theorem aJo (n:List Int):nH qG n=none:=rfl
theorem aOH (b o:Off) (n:List Int):f9 b o oO n=some (Lib.itoa o.day):=rfl
theorem aLo (b o:Off) (n:List Int):f9 b o lL n=k9 o (n0 n):=rfl
theorem aOt (b o:Off) (n:List Int):f9 b o p8 n=k9 o (n0 n):=rfl
theorem aE9 (b o:Off) (n:List Int):f9 b o iA n=(aBx (n0 n) b).map mV:=rfl
theorem aLn (b o:Off) (n:List Int):f9 b o mC n=k9 o (n0 n):=rfl
theorem aUV (b o:Off) (n:List Int):f9 b o wF n=some (mV (aJf o)):=rfl
theorem aTZ (b o:Off) (n:List Int):f9 b o xF n=some (Lib.itoa o.day):=rfl
theorem aUA (b o:Off) (n:List Int):f9 b o xA n=(aCB (tK o) o).map mV:=rfl
theorem aFz (b o:Off) (n:List Int):f9 b o iF n=(aCB (sY o) o).map mV:=rfl
theorem aOy (b o:Off) (n:List Int):f9 b o pW n=(aFI o).map Lib.itoa:=rfl
theorem aPX (b o:Off) (n:List Int):f9 b o pR n=(aBx (n0 n) o).map mV:=rfl
theorem aNN (b o:Off) (n:List Int):f9 b o qG n=k9 o (n0 n):=rfl
theorem aVu (o:Off):mQ o oO=qm:=rfl
theorem aVI (o:Off) (n:Int):rO o oO n=qH o ⟨1,0,0,n⟩:=rfl
theorem aVH (o:Off) (n v:Int):uC o oO n v=(o,qm):=rfl
theorem aR2 (o:Off):mQ o lL=qm:=rfl
theorem aRN (o:Off) (n:Int):rO o lL n=(o,qm):=rfl
theorem aRQ (o:Off) (n v:Int):uC o lL n v=(o,qm):=rfl
theorem aVr (o:Off):mQ o p8=qm:=rfl
theorem aU4 (o:Off) (n:Int):rO o p8 n=(o,qm):=rfl
theorem aU2 (o:Off) (n v:Int):uC o p8 n v=qH o ⟨3,n,0,v⟩:=rfl
theorem aL6 (o:Off):mQ o iA=qm:=rfl
theorem aMF (o:Off) (n:Int):rO o iA n=qH o ⟨4,0,0,n⟩:=rfl
theorem aNC (o:Off) (n v:Int):uC o iA n v=(o,qm):=rfl
theorem aTb (o:Off):mQ o mC=qm:=rfl
theorem aRy (o:Off) (n:Int):rO o mC n=(o,qm):=rfl
theorem aSC (o:Off) (n v:Int):uC o mC n v=qH o ⟨5,n,0,v⟩:=rfl
theorem aYK (o:Off):mQ o wF=qm:=rfl
theorem aYF (o:Off) (n:Int):rO o wF n=qH o ⟨6,n,0,0⟩:=rfl
theorem aXb (o:Off) (n v:Int):uC o wF n v=(o,qm):=rfl
theorem aTB (o:Off):mQ o xF=Lib.itoa o.day:=rfl
theorem aXF (o:Off) (n:Int):rO o xF n=(o,qm):=rfl
theorem aYj (o:Off) (n v:Int):uC o xF n v=(o,qm):=rfl
theorem aTA (o:Off):mQ o xA=vT (aCB (tK o) o):=rfl
theorem aYA (o:Off) (n:Int):rO o xA n=(o,qm):=rfl
theorem aW8 (o:Off) (n v:Int):uC o xA n v=(o,qm):=rfl
theorem aFt (o:Off):mQ o iF=vT (aCB (sY o) o):=rfl
theorem aMY (o:Off) (n:Int):rO o iF n=(o,qm):=rfl
theorem aNt (o:Off) (n v:Int):uC o iF n v=(o,qm):=rfl
theorem aPN (o:Off):mQ o pW=((aFI o).map Lib.itoa).getD qm:=rfl
theorem aUZ (o:Off) (n:Int):rO o pW n=(o,qm):=rfl
theorem aVF (o:Off) (n v:Int):uC o pW n v=(o,qm):=rfl
theorem aVa (o:Off):mQ o pR=qm:=rfl
theorem aNW (o:Off) (n:Int):rO o pR n=(o,vT (aBx n o)):=rfl
theorem aV0 (o:Off) (n v:Int):uC o pR n v=(o,qm):=rfl
theorem aVZ (o:Off):mQ o qG=qm:=rfl
theorem aQm (o:Off) (n:Int):rO o qG n=(o,aEg o n):=rfl
theorem aWt (o:Off) (n v:Int):uC o qG n v=(o,qm):=rfl
theorem qX (w:List UInt8):w=oO\/w=lL\/w=p8\/w=iA\/w=mC\/w=wF\/w=xF\/w=xA\/w=iF\/w=pW\/w=pR\/w=qG\/(w≠oO/\w≠lL/\w≠p8/\w≠iA/\w≠mC/\w≠wF/\w≠xF/\w≠xA/\w≠iF/\w≠pW/\w≠pR/\w≠qG):=by
 by_cases hWait:w=oO
 ·simp [hWait]
 by_cases hEnter:w=lL
 ·simp [hEnter]
 by_cases hHold:w=p8
 ·simp [hHold]
 by_cases hRelease:w=iA
 ·simp [hRelease]
 by_cases hDelay:w=mC
 ·simp [hDelay]
 by_cases hAct:w=wF
 ·simp [hAct]
 by_cases hDay:w=xF
 ·simp [hDay]
 by_cases hDue:w=xA
 ·simp [hDue]
 by_cases hBlocked:w=iF
 ·simp [hBlocked]
 by_cases hRoot:w=pW
 ·simp [hRoot]
 by_cases hHeld:w=pR
 ·simp [hHeld]
 by_cases hCase:w=qG
 ·simp [hCase]
 simp [hWait,hEnter,hHold,hRelease,hDelay,hAct,hDay,hDue,hBlocked,hRoot,hHeld,hCase]
theorem zG {w:List UInt8} (h:w≠oO/\w≠lL/\w≠p8/\w≠iA/\w≠mC/\w≠wF/\w≠xF/\w≠xA/\w≠iF/\w≠pW/\w≠pR/\w≠qG):lkp r6 w=none:=by
 obtain ⟨h0,h1,h2,h3,h4,h5,h6,h7,h8,h9,iY,h11⟩:=h
 simp only [r6,lkp,if_neg h0,if_neg h1,if_neg h2,if_neg h3,if_neg h4,if_neg h5,if_neg h6,if_neg h7,if_neg h8,if_neg h9,if_neg iY,if_neg h11,if_false]
theorem aLx (o:Off) (w:List UInt8) (ws:List (List UInt8)) (ho:dV o=true):qO o w ws=(r4 o w ws).getD (o,qm):=by
 unfold qO r4
 have hm:∀ (s:Stp) (f:Off->Option (List UInt8)),(∀ q,iO o s.k s.i s.a s.v=some q->(if s.k=1 then Lib.itoa q.day else if s.k=4 then vT (aBx s.v o) else if s.k=6 then vT (some (aJf q)) else aEg q s.i)=(f q).getD qm/\(f q).isSome=true) ->
   qH o s=((match iO o s.k s.i s.a s.v with
    | some q=>(f q).map fun r=>(q,r)
    | none=>none):Option (Off×List UInt8)).getD (o,qm):=by
  intro s f hf
  unfold qH
  cases h:iO o s.k s.i s.a s.v with
  | none=>rfl
  | some q =>
   obtain ⟨h1,h2⟩:=hf q h
   simp only
   rw [h1]
   cases hq:f q with
   | none=>rw [hq] at h2; cases h2
   | some r=>rfl
 have hg:∀ x:Option (List UInt8),(x.map fun r=>(o,r)).getD (o,qm)=(o,x.getD qm):=fun x=>by cases x<;>rfl
 have hl:∀ x:Option (List Int),(x.map mV).getD qm=vT x:=fun x=>rfl
 have hla:∀ x:List Int,vT (some x)=mV x:=fun x=>rfl
 have hcs:∀ (q:Off) (i:Int),(k9 q i).getD qm=aEg q i:=fun _ _=>rfl
 cases hn:qR ws with
 | none=>rfl
 | some n =>
  have hn0:n0 n=n0 n:=rfl
  match n,hn with
  | [],_ =>
   rcases qX w with rfl|rfl|rfl|rfl|rfl|rfl|rfl|rfl|rfl|rfl|rfl|rfl|h
   ·simp only [aBK,aVu]
    rfl
   ·simp only [xU,aR2]
    rfl
   ·simp only [aBE,aVr]
    rfl
   ·simp only [qY,aL6]
    rfl
   ·simp only [xO,aTb]
    rfl
   ·simp only [aGe,aYK]
    rfl
   ·simp only [aEC,aPi,aTZ,aTB]
    rw [if_pos (show (some 0:Option Int)=some (((([]:List Int)).length:Nat):Int) from rfl),hg]
    try rfl
   ·simp only [aEF,aQc,aUA,aTA]
    rw [if_pos (show (some 0:Option Int)=some (((([]:List Int)).length:Nat):Int) from rfl),hg]
    try rfl
   ·simp only [oY,aBG,aFz,aFt]
    rw [if_pos (show (some 0:Option Int)=some (((([]:List Int)).length:Nat):Int) from rfl),hg]
    try rfl
   ·simp only [y7,aKs,aOy,aPN]
    rw [if_pos (show (some 0:Option Int)=some (((([]:List Int)).length:Nat):Int) from rfl),hg]
    try rfl
   ·simp only [aAe,aVa]
    rfl
   ·simp only [zL,aVZ]
    rfl
   ·simp only [zG h]
    rw [if_neg (fun e=>by cases e)]
    unfold mQ
    rw [if_neg h.2.2.2.2.2.2.1,if_neg h.2.2.2.2.2.2.2.1,if_neg h.2.2.2.2.2.2.2.2.1,if_neg h.2.2.2.2.2.2.2.2.2.1]
    rfl
  | [a],_ =>
   rcases qX w with rfl|rfl|rfl|rfl|rfl|rfl|rfl|rfl|rfl|rfl|rfl|rfl|h
   ·exact hm ⟨1,0,0,a⟩ (fun q=>some (Lib.itoa q.day)) (fun q _=>⟨rfl,rfl⟩)
   ·simp only [xU,aRN]
    rfl
   ·simp only [aBE,aU4]
    rfl
   ·exact hm ⟨4,0,0,a⟩ (fun _=>(aBx a o).map mV) (fun q h=>by
     obtain ⟨l,hl⟩:=aFs h
     exact ⟨by simp only [hl]; rfl,by simp only [hl]; rfl⟩)
   ·simp only [xO,aRy]
    rfl
   ·exact hm ⟨6,a,0,0⟩ (fun q=>some (mV (aJf q))) (fun q _=>⟨rfl,rfl⟩)
   ·simp only [aEC,aXF]
    rfl
   ·simp only [aEF,aYA]
    rfl
   ·simp only [oY,aMY]
    rfl
   ·simp only [y7,aUZ]
    rfl
   ·simp only [aAe,aKm,aPX,aNW]
    rw [if_pos (show (some 1:Option Int)=some (((([a]:List Int)).length:Nat):Int) from rfl),hg]
    try rfl
   ·simp only [zL,aJo,aNN,aQm]
    rw [if_pos (show (some 1:Option Int)=some (((([a]:List Int)).length:Nat):Int) from rfl),hg]
    try rfl
   ·simp only [zG h]
    rw [if_neg (fun e=>by cases e)]
    unfold rO
    rw [if_neg h.1,if_neg h.2.2.2.1,if_neg h.2.2.2.2.2.1,if_neg h.2.2.2.2.2.2.2.2.2.2.1,if_neg h.2.2.2.2.2.2.2.2.2.2.2]
    rfl
  | [a,b],_ =>
   rcases qX w with rfl|rfl|rfl|rfl|rfl|rfl|rfl|rfl|rfl|rfl|rfl|rfl|h
   ·simp only [aBK,aVH]
    rfl
   ·simp only [xU,aRQ]
    rfl
   ·exact hm ⟨3,a,0,b⟩ (fun q=>k9 q a) (fun q h=>by
     obtain ⟨r,hr⟩:=o7 (by simp) h
     exact ⟨rfl,by simp only [hr]; rfl⟩)
   ·simp only [qY,aNC]
    rfl
   ·exact hm ⟨5,a,0,b⟩ (fun q=>k9 q a) (fun q h=>by
     obtain ⟨r,hr⟩:=o7 (by simp) h
     exact ⟨rfl,by simp only [hr]; rfl⟩)
   ·simp only [aGe,aXb]
    rfl
   ·simp only [aEC,aYj]
    rfl
   ·simp only [aEF,aW8]
    rfl
   ·simp only [oY,aNt]
    rfl
   ·simp only [y7,aVF]
    rfl
   ·simp only [aAe,aV0]
    rfl
   ·simp only [zL,aWt]
    rfl
   ·simp only [zG h]
    rw [if_neg (fun e=>by cases e)]
    unfold uC
    rw [if_neg h.2.2.1,if_neg h.2.2.2.2.1]
    rfl
  | [a,b,c],_ =>
   rcases qX w with rfl|rfl|rfl|rfl|rfl|rfl|rfl|rfl|rfl|rfl|rfl|rfl|h
   ·simp only [aBK]
    rfl
   ·exact hm ⟨2,a,b,c⟩ (fun q=>k9 q a) (fun q h=>by
     obtain ⟨r,hr⟩:=o7 (by simp) h
     exact ⟨rfl,by simp only [hr]; rfl⟩)
   ·simp only [aBE]
    rfl
   ·simp only [qY]
    rfl
   ·simp only [xO]
    rfl
   ·simp only [aGe]
    rfl
   ·simp only [aEC]
    rfl
   ·simp only [aEF]
    rfl
   ·simp only [oY]
    rfl
   ·simp only [y7]
    rfl
   ·simp only [aAe]
    rfl
   ·simp only [zL]
    rfl
   ·simp only [zG h]
    rw [if_neg h.2.1,if_neg (show ¬ (none:Option Int)=some _ from fun e=>by cases e)]
    rfl
  | a :: b :: c :: d :: r,_ =>
   have hlen:∀ m:Int,m<=3->¬ (some m:Option Int)=some (((a :: b :: c :: d :: r).length:Nat):Int):=fun m hm e=>by
    injection e with e
    simp only [aD] at e
    omega
   rcases qX w with rfl|rfl|rfl|rfl|rfl|rfl|rfl|rfl|rfl|rfl|rfl|rfl|h
   ·simp only [aBK]
    rw [if_neg (hlen _ (by decide))]
    rfl
   ·simp only [xU]
    rw [if_neg (hlen _ (by decide))]
    rfl
   ·simp only [aBE]
    rw [if_neg (hlen _ (by decide))]
    rfl
   ·simp only [qY]
    rw [if_neg (hlen _ (by decide))]
    rfl
   ·simp only [xO]
    rw [if_neg (hlen _ (by decide))]
    rfl
   ·simp only [aGe]
    rw [if_neg (hlen _ (by decide))]
    rfl
   ·simp only [aEC]
    rw [if_neg (hlen _ (by decide))]
    rfl
   ·simp only [aEF]
    rw [if_neg (hlen _ (by decide))]
    rfl
   ·simp only [oY]
    rw [if_neg (hlen _ (by decide))]
    rfl
   ·simp only [y7]
    rw [if_neg (hlen _ (by decide))]
    rfl
   ·simp only [aAe]
    rw [if_neg (hlen _ (by decide))]
    rfl
   ·simp only [zL]
    rw [if_neg (hlen _ (by decide))]
    rfl
   ·simp only [zG h]
    rw [if_neg (fun e=>by cases e)]
    rfl
end Go.Pe.Tryz
namespace Go.Pe.Tryz
open Go.Proofs.Tryz
theorem iY:decide ((1:Int) < 0)=false:=by decide
end Go.Pe.Tryz
namespace Go.Pe.Tryz
open Go.Proofs.Tryz Go.Sort
theorem aAA:∀ (l:List UInt8) (acc:Nat),l.all nI=true->∃ m:Nat,Lib.decFrom acc l=some m/\(m:Int)=l.foldl (fun n b=>10 * n + ((b.toNat:Int) - 48)) (acc:Int)
 | [],acc,_=>⟨acc,rfl,rfl⟩
 | b :: r,acc,h=>by
  simp only [List.all_cons,aG] at h
  have hb:=h.1
  simp only [nI,aG,decide_eq_true_eq] at hb
  obtain ⟨m,h1,h2⟩:=aAA r (acc * 10 + (b.toNat - 48)) h.2
  refine ⟨m,?_,?_⟩
  ·simp only [Lib.decFrom,Lib.digitVal,if_pos hb]; exact h1
  ·rw [h2,List.foldl_cons]
   congr 1; omega
theorem aDv (u:Nat):Lib.decNat (Lib.decDigits u)=some u:=by
 obtain ⟨m,h1,h2⟩:=aAA (Lib.decDigits u) 0 (aGh u)
 have h3:=aDZ u
 unfold wD at h3
 have:m=u:=by
  have h4:(m:Int)=(u:Int):=h2.trans h3
  omega
 unfold Lib.decNat
 rw [if_neg (by simpa using n6 u),h1,this]
theorem aBL {n:Int} (h0:-999999<=n) (h1:n<=999999):Lib.atoiAll (Lib.itoa n)=.ok n:=by
 by_cases hn:0<=n
 ·obtain ⟨u,rfl⟩:=aZ hn
  have hl:=aAS 5 u (by omega)
  rw [aAl,Lib.atoiAll_short _ (by omega)]
  have hd:=aDv u
  have hb:=m4 u
  cases hu:Lib.decDigits u with
  | nil=>exact absurd hu (n6 u)
  | cons b r =>
   rw [hu] at hd hb
   have:=hb b aW
   have e1:(b == 45)=false:=beq_eq_false_iff_ne.2 fun e=>by rw [e] at this; exact absurd this.1 (by decide)
   have e2:(b == 43)=false:=beq_eq_false_iff_ne.2 fun e=>by rw [e] at this; exact absurd this.1 (by decide)
   simp only [Lib.atoi,e1,e2,hd]
   rfl
 ·obtain ⟨u,rfl⟩:∃ u:Nat,n=-(u:Int):=⟨n.natAbs,by omega⟩
  have hl:=aAS 5 u (by omega)
  rw [aAy u (by omega),Lib.atoiAll_short _ (by simp; omega)]
  simp only [Lib.atoi,aDv u]
  rfl
theorem aL8 (s:List UInt8) (v:Int) (hl:s.length<=1000000000) (h:Lib.atoiAll s=.ok v):Fn prog 103 [.str s] (fun rs=>rs=[.int .i64 v,.err true]):=by
 intro M vs w hM hG hv
 obtain ⟨cs,us,f1,f2,rfl,hf,⟨rfl,rfl⟩,rfl,rfl⟩:=hv
 refine Calls.mono (Go.Proofs.Tryz.strconv_Atoi_ok ⟨s.toArray⟩ (by show s.toArray.size<=_; simp; omega) v (by simpa using h) w) ?_
 rintro e w' ⟨rfl,hw⟩
 refine ⟨_,[.int .i64 v,.nilIface],[],rfl,rfl,⟨[.int .i64 v],[.nilIface],[],[],rfl,rfl,⟨rfl,rfl⟩,[.nilIface],[],[],[],rfl,rfl,⟨rfl,rfl⟩,rfl,rfl⟩,a7,(fun b hb=>by cases hb),?_⟩
 rcases hw with rfl|⟨t,rfl⟩
 ·exact mO.refl _
 ·exact Lib.bytesWorld_below w _ t
theorem aKo (s:List UInt8) (hl:s.length<=1000000000) (h:∀ v,Lib.atoiAll s≠.ok v):Fn prog 103 [.str s] (fun rs=>∃ v,rs=[.int .i64 v,.err false]):=by
 intro M vs w hM hG hv
 obtain ⟨cs,us,f1,f2,rfl,hf,⟨rfl,rfl⟩,rfl,rfl⟩:=hv
 have hs:(⟨s.toArray⟩:ByteArray).size<=281474976710656:=by show s.toArray.size<=_; simp; omega
 have out:∀ (n:Int) (t:TypeId) (v:Value) (w':World),fH w' (fun b=>M b\/b∈([]:List Nat)) [.int .i64 n,.err false] [.int .i64 n,.iface t v] []:=fun n t v w' =>
  ⟨[.int .i64 n],[.iface t v],[],[],rfl,rfl,⟨rfl,rfl⟩,[.iface t v],[],[],[],rfl,rfl,⟨rfl,t,v,rfl⟩,rfl,rfl⟩
 cases ha:Lib.atoiAll s
 ·exact absurd ha (h _)
 ·obtain ⟨t,p,hv⟩:=aXm hG.fact
  refine Calls.mono (Go.Proofs.Tryz.strconv_Atoi_syntax_var ⟨s.toArray⟩ hs (ha.trans rfl) t p w hv) ?_
  rintro e w' ⟨N,rfl,_,_,hB⟩
  exact ⟨_,_,[],rfl,⟨_,rfl⟩,out _ _ _ w',a7,(fun b hb=>by cases hb),hB⟩
 ·obtain ⟨t,p,hv⟩:=aW9 hG.fact
  refine Calls.mono (Go.Proofs.Tryz.strconv_Atoi_range_var ⟨s.toArray⟩ hs (by simpa using ha) t p w hv) ?_
  rintro e w' ⟨N,rfl,_,_,hB⟩
  exact ⟨_,_,[],rfl,⟨_,rfl⟩,out _ _ _ w',a7,(fun b hb=>by cases hb),hB⟩
theorem aJj (s:List UInt8) (hl:s.length<=1000000000):Fn prog 69 [.str s] (fun rs=>rs=rdR s):=by
 by_cases hx:∃ v,Lib.atoiAll s=.ok v
 ·obtain ⟨v,ha⟩:=hx
  have hA:=aL8 s v hl ha
  have hb:=Lib.atoiAll_bounds ha
  have hW:=fL v (-999999) 999999
  cases hw:dE v (-999999) 999999 with
  | false =>
   have e:lP s=none:=by
    cases hr:lP s with
    | none=>rfl
    | some n =>
     obtain ⟨h1,h2,h3⟩:=vD hr
     rw [<- h1,aBL h2 h3] at ha
     injection ha with ha
     subst ha
     rw [kT h2 h3] at hw; cases hw
   unfold rdR
   rw [e]
   rw [hw] at hW
   refine c7 aHQ [] ?_
   dsimp only [aHQ,cY,dD]
   repeat' (first|(simp only [cM,↓wA,↓wC,wB,cQ,cP,bP,bQ,bR,reduceIte,reduceCtorEq,aA,bT])|(refine cO (hA) rfl rfl ?_)|(refine cR (hA) rfl rfl ?_)|(refine cO (hW) rfl rfl ?_)|(refine cR (hW) rfl rfl ?_)|((first|apply cJ|apply cK|apply cI)<;>intro h<;>try simp only [h]))
  | true =>
   have hwi:=j9.1 hw
   have hD:=eZ v (by simp only [eA]; omega)
   rw [hw] at hW
   by_cases hs:Lib.itoa v=s
   ·have e:lP s=some v:=by rw [<- hs]; exact aJs hwi.1 hwi.2
    have hd:decide (Lib.itoa v=s)=true:=decide_eq_true hs
    unfold rdR
    rw [e]
    refine c7 aHQ [] ?_
    dsimp only [aHQ,cY,dD]
    repeat' (first|(simp only [cM,hd,↓wA,↓wC,wB,cQ,cP,bP,bQ,bR,reduceIte,reduceCtorEq,aA,bT])|(refine cO (hA) rfl rfl ?_)|(refine cR (hA) rfl rfl ?_)|(refine cO (hW) rfl rfl ?_)|(refine cR (hW) rfl rfl ?_)|(refine cO (hD) rfl rfl ?_)|(refine cR (hD) rfl rfl ?_)|((first|apply cJ|apply cK|apply cI)<;>intro h<;>try simp only [h]))
   ·have e:lP s=none:=by
     cases hr:lP s with
     | none=>rfl
     | some n =>
      obtain ⟨h1,h2,h3⟩:=vD hr
      rw [<- h1,aBL h2 h3] at ha
      injection ha with ha
      subst ha
      exact absurd h1 hs
    have hd:decide (Lib.itoa v=s)=false:=decide_eq_false hs
    unfold rdR
    rw [e]
    refine c7 aHQ [] ?_
    dsimp only [aHQ,cY,dD]
    repeat' (first|(simp only [cM,hd,↓wA,↓wC,wB,cQ,cP,bP,bQ,bR,reduceIte,reduceCtorEq,aA,bT])|(refine cO (hA) rfl rfl ?_)|(refine cR (hA) rfl rfl ?_)|(refine cO (hW) rfl rfl ?_)|(refine cR (hW) rfl rfl ?_)|(refine cO (hD) rfl rfl ?_)|(refine cR (hD) rfl rfl ?_)|((first|apply cJ|apply cK|apply cI)<;>intro h<;>try simp only [h]))
 ·have hA:=aKo s hl (fun v e=>hx ⟨v,e⟩)
  have e:lP s=none:=by
   cases hr:lP s with
   | none=>rfl
   | some n =>
    obtain ⟨h1,h2,h3⟩:=vD hr
    exact absurd ⟨n,by rw [<- h1]; exact aBL h2 h3⟩ hx
  unfold rdR
  rw [e]
  refine c7 aHQ [] ?_
  dsimp only [aHQ,cY,dD]
  repeat' (first|(simp only [cM,↓wA,↓wC,wB,cQ,cP,bP,bQ,bR,reduceIte,reduceCtorEq,aA,bT])|((first|apply cJ|apply cK|apply cI)<;>intro h<;>try simp only [h]))
  refine tH hA rfl fun rs h=>?_
  obtain ⟨v,rfl⟩:=h
  refine ⟨.inl rfl,?_⟩
  repeat' (first|(simp only [cM,↓wA,↓wC,wB,cQ,cP,bP,bQ,bR,reduceIte,reduceCtorEq,aA,bT])|((first|apply cJ|apply cK|apply cI)<;>intro h<;>try simp only [h]))
theorem aCx (s:List UInt8) (hl:s.length<=100000000):Fn prog 79 [.str s] (fun rs=>rs=rdR s):=by
 have hR:=aM5 s hl
 have e:∃ n b,rdR s=[.int .i64 n,.bool b]:=by
  unfold rdR
  split<;>exact ⟨_,_,rfl⟩
 obtain ⟨n,b,e⟩:=e
 rw [e] at hR ⊢
 refine c7 aYc [] ?_
 dsimp only [aYc,cY,dD]
 repeat' (first|(simp only [↓wA,↓wC,wB,cQ,cP,bP,bQ,bR,reduceIte,reduceCtorEq,aA,bT])|(refine cO (hR) rfl rfl ?_)|(refine cR (hR) rfl rfl ?_)|((first|apply cJ|apply cK|apply cI)<;>intro h<;>try simp only [h]))
theorem aMm {x:UInt8} {s w:List UInt8} (h:parts x s=[w]):w=s:=by
 have h1:x ∉ s:=(aFw x s).1 (by rw [h]; exact Nat.lt_succ_self 1)
 rw [zE h1] at h
 injection h with h _
 exact h.symm
theorem rI (x:UInt8) (s:List UInt8):∀ w∈parts x s,w.length<=s.length:=by
 intro w hw
 unfold parts at hw
 rcases aR.1 hw with hw|hw
 ·have:∀ i,∀ u∈(spl x s i).1,u.length<=s.length:=by
   intro i
   induction i with
   | zero=>intro u hu; simp [spl] at hu
   | succ i ih =>
    intro u hu
    simp only [spl] at hu
    split at hu
    ·split at hu
     ·rcases aR.1 hu with hu|hu
      ·exact ih u hu
      ·rw [aO.1 hu,aY,aQ]; omega
     ·exact ih u hu
    ·exact ih u hu
  exact this _ w hw
 ·rw [aO.1 hw,aY]; omega
theorem aHT (x:UInt8):∀ (k:Nat) (s:ByteArray),Lib.countB s ⟨#[x]⟩=k->(Lib.splitB ⟨#[x]⟩ 0 k s).map (·.data.toList)=parts x s.data.toList:=by
 intro k
 induction k with
 | zero =>
  intro s hk
  rcases Lib.indexB_cases s ⟨#[x]⟩ with h|⟨i,h,hle⟩
  ·have h':Lib.indexByte s.data.toList x=-1:=by rw [<- Lib.index_one]; exact h
   have hx:x ∉ s.data.toList:=fun hm=>by
    obtain ⟨j,hj⟩:=List.getElem?_of_mem hm
    exact Lib.indexByte_none h' j hj
   rw [zE hx]; rfl
  ·rw [Lib.countB_hit s ⟨#[x]⟩ i (aI 1) h] at hk; omega
 | succ k ih =>
  intro s hk
  rcases Lib.indexB_cases s ⟨#[x]⟩ with h|⟨i,h,hle⟩
  ·rw [Lib.countB_miss _ _ h] at hk; omega
  ·have hc:=Lib.countB_hit s ⟨#[x]⟩ i (aI 1) h
   have h':Lib.indexByte s.data.toList x=(i:Int):=by rw [<- Lib.index_one]; exact h
   obtain ⟨h1,h2⟩:=Lib.indexByte_some h'
   have hi:=c6 h1
   have hsz:s.data.toList.length=s.size:=by rw [Array.length_toList]; rfl
   have e1:(s.extract 0 (i + 0)).data.toList=s.data.toList.take i:=by
    simp only [ByteArray.data_extract,Array.toList_extract,aX,bL,Nat.sub_zero,bF]
   have e2:(s.extract (i + (⟨#[x]⟩:ByteArray).size) s.size).data.toList=s.data.toList.drop (i + 1):=by
    simp only [ByteArray.data_extract,Array.toList_extract,aX]
    rw [aN (by rw [aY,hsz]; exact aI _)]; rfl
   have e3:s.data.toList=s.data.toList.take i ++ x :: s.data.toList.drop (i + 1):=by
    rw [List.getElem?_eq_getElem hi] at h1
    injection h1 with h1
    have e4:x :: s.data.toList.drop (i + 1)=s.data.toList.drop i:=by rw [List.drop_eq_getElem_cons hi,h1]
    rw [e4,List.take_append_drop]
   have hx:x ∉ s.data.toList.take i:=fun hm=>by
    obtain ⟨j,hj⟩:=List.getElem?_of_mem hm
    rw [List.getElem?_take] at hj
    split at hj
    ·exact h2 j (by assumption) hj
    ·cases hj
   rw [Lib.splitB_hit _ _ _ _ i h,bK,e1,ih _ (by omega),e2]
   conv=>rhs; rw [e3]
   rw [zY hx]
theorem aLc {w:World} {M:Nat->Prop}:∀ L:List (List UInt8),(dl D.str L).rep w M (L.map fun s=>Value.string ⟨s.toArray⟩) []
 | []=>⟨rfl,rfl⟩
 | s :: L=>⟨[_],_,[],[],rfl,rfl,⟨rfl,rfl⟩,aLc L⟩
theorem aIM (s:List UInt8) (x:UInt8) (hl:s.length<=1000000000):Fn prog 36 [.str s,.str [x]] (fun rs=>rs=[.sl true 1 (dl D.str (parts x s))]):=by
 intro M vs w hM hG hv
 obtain ⟨cs,us,f1,f2,rfl,hf,⟨rfl,rfl⟩,cs2,us2,f3,f4,rfl,hf2,⟨rfl,rfl⟩,rfl,rfl⟩:=hv
 obtain ⟨m,hm⟩:=aTJ hG.fact
 refine Calls.mono (Go.Proofs.Tryz.strings_Split ⟨s.toArray⟩ ⟨#[x]⟩ m w (by show s.toArray.size < _; simp; omega) hm (aI 1)) ?_
 rintro e w' ⟨rfl,rfl⟩
 have key:=aHT x _ ⟨s.toArray⟩ rfl
 have hlen:Lib.countB ⟨s.toArray⟩ ⟨#[x]⟩ + 1=(parts x s).length:=by
  have h1:=Lib.splitB_all ⟨#[x]⟩ (aI 1) 0 _ ⟨s.toArray⟩ rfl
  rw [<- h1,<-a6 (f:=fun b:ByteArray=>b.data.toList),key]
 have hval:(Lib.splitB ⟨#[x]⟩ 0 (Lib.countB ⟨s.toArray⟩ ⟨#[x]⟩) ⟨s.toArray⟩).map Value.string=(parts x s).map fun s=>Value.string ⟨s.toArray⟩:=by
  have e:parts x s=parts x (⟨s.toArray⟩:ByteArray).data.toList:=by simp
  rw [e,<-key,List.map_map]
  exact List.map_congr_left fun b _=>by simp
 rw [hlen,hval]
 refine ⟨_,_,[w.heap.size],rfl,rfl,⟨[_],[],[w.heap.size],[],rfl,rfl,⟨?_,some ⟨w.heap.size,0,none⟩,(parts x s).length,(parts x s).map fun s=>Value.string ⟨s.toArray⟩,[],?_,?_,aLc (parts x s),?_⟩,rfl,rfl⟩,by simp,?_,?_⟩
 ·exact (jX _).2 fun y hy=>by
   obtain ⟨z,_,rfl⟩:=aS.1 hy
   rfl
 ·rw [cU]
 ·rw [cU]; exact aI _
 ·refine .inr ⟨w.heap.size,rfl,⟨⟨_,_,jB.new w _ _,by simp,?_⟩,fun h=>absurd rfl h⟩,rfl⟩
  simp only []
  exact aN (aI _)
 ·intro b hb
  rw [aO.1 hb]; exact aI _
 ·exact ⟨rfl,rfl,rfl,by show w.heap.size<=(w.heap.push _).size; simp,fun b hb=>(Go.MapKept.heap_alloc w _).2 b hb⟩
theorem aMx (sep:List UInt8):∀ (L:List (List UInt8)) (x:List UInt8),L≠[]->Lib.join (L ++ [x]) sep=Lib.join L sep ++ (sep ++ x)
 | [],x,h=>absurd rfl h
 | a :: r,x,_=>by
  have h1:Lib.joinTail sep (r ++ [x])=Lib.joinTail sep r ++ (sep ++ x):=by simp [Lib.joinTail]
  simp only [aP,Lib.join_cons,h1,bB]
theorem aMR (v:List Int) (h:∀ n∈v,eA .i64 n):(Lib.join (v.map Lib.itoa) [32]).length<=22 * v.length:=by
 cases v with
 | nil=>simp [Lib.join]
 | cons a r =>
  have h1:=uS [32] 21 (r.map Lib.itoa) (fun x hx=>by
   obtain ⟨n,hn,rfl⟩:=aS.1 hx
   exact eJ n (h n (List.mem_cons_of_mem _ hn)))
  have h2:=eJ a (h a aW)
  simp only [bK,Lib.join_cons,aU,aD,a6,aE] at h1 ⊢
  omega
def aBk (v:List Int):Prop:=v.length<=1000/\∀ n∈v,0<=n/\eA .i64 n
theorem pZ (v:List Int) (h:aBk v):Fn prog 106 [.sl false 1 (dl iD v)] (fun rs=>rs=[.str (mV v)]):=by
 have hl:=h.1
 have hJ:=aB3 v [32] (fun n hn=>(h.2 n hn).2) hl (by decide)
 unfold mV
 by_cases h0:v=[]
 ·have hd:decide ((v.length:Int)=0)=true:=by rw [h0]; rfl
  rw [if_pos h0]
  refine c7 aK0 [] ?_
  dsimp only [aK0,cY,dD]
  repeat' (first|(simp only [cM,cU,hd,↓wA,↓wC,wB,cQ,cP,bP,bQ,bR,reduceIte,reduceCtorEq,aA,bT])|((first|apply cJ|apply cK|apply cI)<;>intro h<;>try simp only [h]))
 ·have:=aK.2 h0
  have hd:decide ((v.length:Int)=0)=false:=decide_eq_false (by omega)
  rw [if_neg h0]
  refine c7 aK0 [] ?_
  dsimp only [aK0,cY,dD]
  repeat' (first|(simp only [cM,cU,hd,dB,↓wA,↓wC,wB,cQ,cP,bP,bQ,bR,reduceIte,reduceCtorEq,aA,bT])|(refine cO hJ (by simp [dH,dQ,D.unown,dW]) rfl ?_)|(refine cR hJ (by simp [dH,dQ,D.unown,dW]) rfl ?_)|((first|apply cJ|apply cK|apply cI)<;>intro h<;>try simp only [h]))
theorem rS (v:List Int) (b:Bool) (h:aBk v):Fn prog 120 [.sl false 1 (dl iD v),.bool b] (fun rs=>rs=[.str (if b then mV v else qm)]):=by
 have hl:=h.1
 unfold mV
 cases b with
 | false =>
  refine c7 aFB [] ?_
  dsimp only [aFB,cY,dD]
  repeat' (first|(simp only [cM,↓wA,↓wC,wB,cQ,cP,bP,bQ,bR,reduceIte,reduceCtorEq,aA,bT])|((first|apply cJ|apply cK|apply cI)<;>intro h<;>try simp only [h]))
  all_goals rfl
 | true =>
  by_cases h0:v=[]
  ·have hd:decide ((v.length:Int)=0)=true:=by rw [h0]; rfl
   rw [if_pos h0,if_pos rfl]
   refine c7 aFB [] ?_
   dsimp only [aFB,cY,dD]
   repeat' (first|(simp only [cM,cU,hd,↓wA,↓wC,wB,cQ,cP,bP,bQ,bR,reduceIte,reduceCtorEq,aA,bT])|((first|apply cJ|apply cK|apply cI)<;>intro h<;>try simp only [h]))
  ·have hp:=aK.2 h0
   have hd0:decide ((v.length:Int)=0)=false:=decide_eq_false (by omega)
   obtain ⟨a,ha⟩:=dS hp
   have hA:=eW a (h.2 a (aF ha)).1 (h.2 a (aF ha)).2
   have e0:Lib.itoa a=Lib.join ((v.take 1).map Lib.itoa) [32]:=by
    cases v with
    | nil=>exact absurd rfl h0
    | cons x r=>injection ha with ha; subst ha; simp [Lib.join_one]
   rw [if_neg h0,if_pos rfl]
   refine c7 aFB [] ?_
   dsimp only [aFB,cY,dD]
   repeat' (first|(simp only [cM,cU,dC,hd0,ha,aC,Int.toNat_zero,eV,iD,↓wA,↓wC,wB,cQ,cP,bP,bQ,bR,reduceIte,reduceCtorEq,aA,bT])|(refine cO (hA) rfl rfl ?_)|(refine cR (hA) rfl rfl ?_)|(with_reducible refine cW ?_ ?_; focus omega)|((first|apply cJ|apply cK|apply cI)<;>intro h<;>try simp only [h]))
   refine eM (fun i:Nat=>⟨[(0,.d (.sl false 1 (dl iD v))),(5,.d (.str (Lib.join ((v.take i).map Lib.itoa) [32]))),(6,.d (.int .i64 (i:Int)))],[]⟩) (fun i=>1<=i/\i<=v.length) (fun i=>v.length - i) 1 (by rw [<- e0]; exact (cX _ rfl ⟨⟨rfl,rfl⟩,⟨rfl,rfl⟩,⟨rfl,rfl⟩,trivial⟩)) ⟨aI _,hp⟩ ?_
   rintro i ⟨h1,h2⟩
   by_cases hi:i < v.length
   ·have hd:decide ((i:Int) < (v.length:Int))=true:=decide_eq_true (by omega)
    obtain ⟨n,hn⟩:=dS hi
    have hN:=eW n (h.2 n (aF hn)).1 (h.2 n (aF hn)).2
    have hj:=aMR (v.take i) (fun n hn=>(h.2 n (a8 hn)).2)
    have hk:=eJ n (h.2 n (aF hn)).2
    rw [aQ,Nat.min_eq_left (by omega)] at hj
    have ej:Lib.join ((v.take (i + 1)).map Lib.itoa) [32]=Lib.join ((v.take i).map Lib.itoa) [32] ++ (32 :: Lib.itoa n):=by
     rw [fY hn,List.map_append]
     exact aMx [32] _ _ fun e=>by
      have:=congrArg List.length e
      simp only [a6,aQ,aE] at this
      omega
    repeat' (first|(simp only [cM,cU,dC,hd,hn,aC,aB,eV,iD,↓wA,↓wC,wB,cQ,cP,bP,bQ,bR,reduceIte,reduceCtorEq,aA,bT])|(refine cO (hN) rfl rfl ?_)|(refine cR (hN) rfl rfl ?_)|(with_reducible refine cW ?_ ?_; focus ((try simp only [aU,aD,aE]); omega))|(with_reducible refine cV ?_ ?_; focus (simp only [eA]; omega))|((first|apply cJ|apply cK|apply cI)<;>intro h<;>try simp only [h]))
    all_goals
     refine ⟨i + 1,?_,⟨by omega,by omega⟩,by omega⟩
     rw [ej]
     (try simp only [bB,aP,bC])
     exact (cX _ rfl ⟨⟨rfl,rfl⟩,⟨rfl,rfl⟩,⟨rfl,rfl⟩,trivial⟩)
   ·have hd:decide ((i:Int) < (v.length:Int))=false:=decide_eq_false (by omega)
    have ht:v.take i=v:=aN (by omega)
    repeat' (first|(simp only [cM,cU,hd,ht,↓wA,↓wC,wB,cQ,cP,bP,bQ,bR,reduceIte,reduceCtorEq,aA,bT])|((first|apply cJ|apply cK|apply cI)<;>intro h<;>try simp only [h]))
theorem aEv (o:Off) (id:Int) (ho:o.ok0):Fn prog 124 [o.s,.int .i64 id] (fun rs=>rs=[.str (aEg o id)]):=by
 have hC:=aCC o id ho
 unfold aEg k9
 unfold aDB at hC
 by_cases h1:dV o=true
 ·rw [if_pos h1] at hC
  by_cases h2:0<=gM o.cs id
  ·rw [if_pos h2] at hC
   rw [if_pos ⟨h1,h2⟩]
   refine c7 aFD [] ?_
   dsimp only [aFD,cY,dD]
   repeat' (first|(simp only [aZw,aZx,↓dK,cM,↓wA,↓wC,wB,cQ,cP,bP,bQ,bR,reduceIte,reduceCtorEq,aA,bT])|(refine cO hC (by simp [dH,dQ,aZv]) rfl ?_)|((first|apply cJ|apply cK|apply cI)<;>intro h<;>try simp only [h]))
   all_goals rfl
  ·rw [if_neg h2] at hC
   rw [if_neg (fun h=>h2 h.2)]
   refine c7 aFD [] ?_
   dsimp only [aFD,cY,dD]
   repeat' (first|(simp only [aZw,aZx,↓dK,cM,↓wA,↓wC,wB,cQ,cP,bP,bQ,bR,reduceIte,reduceCtorEq,aA,bT])|(refine cO hC (by simp [dH,dQ,aZv]) rfl ?_)|((first|apply cJ|apply cK|apply cI)<;>intro h<;>try simp only [h]))
   all_goals rfl
 ·rw [if_neg h1] at hC
  rw [if_neg (fun h=>h1 h.1)]
  refine c7 aFD [] ?_
  dsimp only [aFD,cY,dD]
  repeat' (first|(simp only [aZw,aZx,↓dK,cM,↓wA,↓wC,wB,cQ,cP,bP,bQ,bR,reduceIte,reduceCtorEq,aA,bT])|(refine cO hC (by simp [dH,dQ,aZv]) rfl ?_)|((first|apply cJ|apply cK|apply cI)<;>intro h<;>try simp only [h]))
  all_goals rfl
def wIx (w:List UInt8):Nat:=if w=oO then 0 else if w=lL then 1 else if w=p8 then 2 else if w=iA then 3 else if w=mC then 4 else if w=wF then 5 else if w=xF then 6 else if w=xA then 7 else if w=iF then 8 else if w=pW then 9 else if w=pR then 10 else if w=qG then 11 else 12
theorem wI (w:List UInt8) (k:Nat) (h:wIx w=k):decide (w=oO)=(k == 0)/\decide (w=lL)=(k == 1)/\decide (w=p8)=(k == 2)/\decide (w=iA)=(k == 3)/\decide (w=mC)=(k == 4)/\decide (w=wF)=(k == 5)/\decide (w=xF)=(k == 6)/\decide (w=xA)=(k == 7)/\decide (w=iF)=(k == 8)/\decide (w=pW)=(k == 9)/\decide (w=pR)=(k == 10)/\decide (w=qG)=(k == 11):=by
 subst h
 rcases qX w with rfl|rfl|rfl|rfl|rfl|rfl|rfl|rfl|rfl|rfl|rfl|rfl|⟨h0,h1,h2,h3,h4,h5,h6,h7,h8,h9,iY,h11⟩
 all_goals first|exact ⟨rfl,rfl,rfl,rfl,rfl,rfl,rfl,rfl,rfl,rfl,rfl,rfl⟩|skip
 have e:wIx w=12:=by unfold wIx; rw [if_neg h0,if_neg h1,if_neg h2,if_neg h3,if_neg h4,if_neg h5,if_neg h6,if_neg h7,if_neg h8,if_neg h9,if_neg iY,if_neg h11]
 rw [e]
 exact ⟨decide_eq_false h0,decide_eq_false h1,decide_eq_false h2,decide_eq_false h3,decide_eq_false h4,decide_eq_false h5,decide_eq_false h6,decide_eq_false h7,decide_eq_false h8,decide_eq_false h9,decide_eq_false iY,decide_eq_false h11⟩
def aVD (s:Option Stp):List D:=match s with
 | some s=>[lG s.k s.i s.a s.v,.bool true]
 | none=>[lG 0 0 0 0,.bool false]
theorem aJD (w:List UInt8) (n:List Int) (h:lkp r6 w=some (n.length:Int)):Fn prog 70 [.str w,.sl false 1 (dl iD n)] (fun rs=>rs=aVD (nH w n)):=by
 have hl:∀ {v:List UInt8} {m:Int},w=v->lkp r6 v=some m->(n.length:Int)=m:=fun e hm=>by
  rw [e,hm] at h
  injection h with h
  exact h.symm
 rcases qX w with hw|hw|hw|hw|hw|hw|hw|hw|hw|hw|hw|hw|hw
 ·have hI:=wI w 0 (by subst hw; rfl)
  have hn:=hl hw aBK
  rw [(congrArg (nH · n) hw).trans (aVn n)]
  obtain ⟨a,rfl⟩:∃ a,n=[a]:=by
   match n,hn with
   | [a],_=>exact ⟨a,rfl⟩
  refine c7 qV [] ?_
  dsimp only [qV,cY,dD]
  repeat' (first|(simp only [hI,cM,cU,dC,List.getElem?_cons_zero,List.getElem?_cons_succ,aD,aE,aC,aH,eV,iD,↓wA,↓wC,wB,cQ,cP,bP,bQ,bR,reduceIte,reduceCtorEq,aA,bT,gZ])|(refine dN ?_)|(with_reducible refine cW ?_ ?_; focus omega)|((first|apply cJ|apply cK|apply cI)<;>intro h<;>try simp only [h]))
  all_goals rfl
 ·have hI:=wI w 1 (by subst hw; rfl)
  have hn:=hl hw xU
  rw [(congrArg (nH · n) hw).trans (aLw n)]
  obtain ⟨a,b,c,rfl⟩:∃ a b c,n=[a,b,c]:=by
   match n,hn with
   | [a,b,c],_=>exact ⟨a,b,c,rfl⟩
  refine c7 qV [] ?_
  dsimp only [qV,cY,dD]
  repeat' (first|(simp only [hI,cM,cU,dC,List.getElem?_cons_zero,List.getElem?_cons_succ,aD,aE,aC,aH,eV,iD,↓wA,↓wC,wB,cQ,cP,bP,bQ,bR,reduceIte,reduceCtorEq,aA,bT,gZ])|(refine dN ?_)|(with_reducible refine cW ?_ ?_; focus omega)|((first|apply cJ|apply cK|apply cI)<;>intro h<;>try simp only [h]))
  all_goals rfl
 ·have hI:=wI w 2 (by subst hw; rfl)
  have hn:=hl hw aBE
  rw [(congrArg (nH · n) hw).trans (aQa n)]
  obtain ⟨a,b,rfl⟩:∃ a b,n=[a,b]:=by
   match n,hn with
   | [a,b],_=>exact ⟨a,b,rfl⟩
  refine c7 qV [] ?_
  dsimp only [qV,cY,dD]
  repeat' (first|(simp only [hI,cM,cU,dC,List.getElem?_cons_zero,List.getElem?_cons_succ,aD,aE,aC,aH,eV,iD,↓wA,↓wC,wB,cQ,cP,bP,bQ,bR,reduceIte,reduceCtorEq,aA,bT,gZ])|(refine dN ?_)|(with_reducible refine cW ?_ ?_; focus omega)|((first|apply cJ|apply cK|apply cI)<;>intro h<;>try simp only [h]))
  all_goals rfl
 ·have hI:=wI w 3 (by subst hw; rfl)
  have hn:=hl hw qY
  rw [(congrArg (nH · n) hw).trans (aFS n)]
  obtain ⟨a,rfl⟩:∃ a,n=[a]:=by
   match n,hn with
   | [a],_=>exact ⟨a,rfl⟩
  refine c7 qV [] ?_
  dsimp only [qV,cY,dD]
  repeat' (first|(simp only [hI,cM,cU,dC,List.getElem?_cons_zero,List.getElem?_cons_succ,aD,aE,aC,aH,eV,iD,↓wA,↓wC,wB,cQ,cP,bP,bQ,bR,reduceIte,reduceCtorEq,aA,bT,gZ])|(refine dN ?_)|(with_reducible refine cW ?_ ?_; focus omega)|((first|apply cJ|apply cK|apply cI)<;>intro h<;>try simp only [h]))
  all_goals rfl
 ·have hI:=wI w 4 (by subst hw; rfl)
  have hn:=hl hw xO
  rw [(congrArg (nH · n) hw).trans (aLq n)]
  obtain ⟨a,b,rfl⟩:∃ a b,n=[a,b]:=by
   match n,hn with
   | [a,b],_=>exact ⟨a,b,rfl⟩
  refine c7 qV [] ?_
  dsimp only [qV,cY,dD]
  repeat' (first|(simp only [hI,cM,cU,dC,List.getElem?_cons_zero,List.getElem?_cons_succ,aD,aE,aC,aH,eV,iD,↓wA,↓wC,wB,cQ,cP,bP,bQ,bR,reduceIte,reduceCtorEq,aA,bT,gZ])|(refine dN ?_)|(with_reducible refine cW ?_ ?_; focus omega)|((first|apply cJ|apply cK|apply cI)<;>intro h<;>try simp only [h]))
  all_goals rfl
 ·have hI:=wI w 5 (by subst hw; rfl)
  have hn:=hl hw aGe
  rw [(congrArg (nH · n) hw).trans (aXu n)]
  obtain ⟨a,rfl⟩:∃ a,n=[a]:=by
   match n,hn with
   | [a],_=>exact ⟨a,rfl⟩
  refine c7 qV [] ?_
  dsimp only [qV,cY,dD]
  repeat' (first|(simp only [hI,cM,cU,dC,List.getElem?_cons_zero,List.getElem?_cons_succ,aD,aE,aC,aH,eV,iD,↓wA,↓wC,wB,cQ,cP,bP,bQ,bR,reduceIte,reduceCtorEq,aA,bT,gZ])|(refine dN ?_)|(with_reducible refine cW ?_ ?_; focus omega)|((first|apply cJ|apply cK|apply cI)<;>intro h<;>try simp only [h]))
  all_goals rfl
 ·have hI:=wI w 6 (by subst hw; rfl)
  have hn:=hl hw aEC
  rw [(congrArg (nH · n) hw).trans (aPi n)]
  refine c7 qV [] ?_
  dsimp only [qV,cY,dD]
  repeat' (first|(simp only [hI,cM,cU,dC,List.getElem?_cons_zero,List.getElem?_cons_succ,aD,aE,aC,aH,eV,iD,↓wA,↓wC,wB,cQ,cP,bP,bQ,bR,reduceIte,reduceCtorEq,aA,bT,gZ])|(refine dN ?_)|(with_reducible refine cW ?_ ?_; focus omega)|((first|apply cJ|apply cK|apply cI)<;>intro h<;>try simp only [h]))
  all_goals rfl
 ·have hI:=wI w 7 (by subst hw; rfl)
  have hn:=hl hw aEF
  rw [(congrArg (nH · n) hw).trans (aQc n)]
  refine c7 qV [] ?_
  dsimp only [qV,cY,dD]
  repeat' (first|(simp only [hI,cM,cU,dC,List.getElem?_cons_zero,List.getElem?_cons_succ,aD,aE,aC,aH,eV,iD,↓wA,↓wC,wB,cQ,cP,bP,bQ,bR,reduceIte,reduceCtorEq,aA,bT,gZ])|(refine dN ?_)|(with_reducible refine cW ?_ ?_; focus omega)|((first|apply cJ|apply cK|apply cI)<;>intro h<;>try simp only [h]))
  all_goals rfl
 ·have hI:=wI w 8 (by subst hw; rfl)
  have hn:=hl hw oY
  rw [(congrArg (nH · n) hw).trans (aBG n)]
  refine c7 qV [] ?_
  dsimp only [qV,cY,dD]
  repeat' (first|(simp only [hI,cM,cU,dC,List.getElem?_cons_zero,List.getElem?_cons_succ,aD,aE,aC,aH,eV,iD,↓wA,↓wC,wB,cQ,cP,bP,bQ,bR,reduceIte,reduceCtorEq,aA,bT,gZ])|(refine dN ?_)|(with_reducible refine cW ?_ ?_; focus omega)|((first|apply cJ|apply cK|apply cI)<;>intro h<;>try simp only [h]))
  all_goals rfl
 ·have hI:=wI w 9 (by subst hw; rfl)
  have hn:=hl hw y7
  rw [(congrArg (nH · n) hw).trans (aKs n)]
  refine c7 qV [] ?_
  dsimp only [qV,cY,dD]
  repeat' (first|(simp only [hI,cM,cU,dC,List.getElem?_cons_zero,List.getElem?_cons_succ,aD,aE,aC,aH,eV,iD,↓wA,↓wC,wB,cQ,cP,bP,bQ,bR,reduceIte,reduceCtorEq,aA,bT,gZ])|(refine dN ?_)|(with_reducible refine cW ?_ ?_; focus omega)|((first|apply cJ|apply cK|apply cI)<;>intro h<;>try simp only [h]))
  all_goals rfl
 ·have hI:=wI w 10 (by subst hw; rfl)
  have hn:=hl hw aAe
  rw [(congrArg (nH · n) hw).trans (aKm n)]
  obtain ⟨a,rfl⟩:∃ a,n=[a]:=by
   match n,hn with
   | [a],_=>exact ⟨a,rfl⟩
  refine c7 qV [] ?_
  dsimp only [qV,cY,dD]
  repeat' (first|(simp only [hI,cM,cU,dC,List.getElem?_cons_zero,List.getElem?_cons_succ,aD,aE,aC,aH,eV,iD,↓wA,↓wC,wB,cQ,cP,bP,bQ,bR,reduceIte,reduceCtorEq,aA,bT,gZ])|(refine dN ?_)|(with_reducible refine cW ?_ ?_; focus omega)|((first|apply cJ|apply cK|apply cI)<;>intro h<;>try simp only [h]))
  all_goals rfl
 ·have hI:=wI w 11 (by subst hw; rfl)
  have hn:=hl hw zL
  rw [(congrArg (nH · n) hw).trans (aJo n)]
  obtain ⟨a,rfl⟩:∃ a,n=[a]:=by
   match n,hn with
   | [a],_=>exact ⟨a,rfl⟩
  refine c7 qV [] ?_
  dsimp only [qV,cY,dD]
  repeat' (first|(simp only [hI,cM,cU,dC,List.getElem?_cons_zero,List.getElem?_cons_succ,aD,aE,aC,aH,eV,iD,↓wA,↓wC,wB,cQ,cP,bP,bQ,bR,reduceIte,reduceCtorEq,aA,bT,gZ])|(refine dN ?_)|(with_reducible refine cW ?_ ?_; focus omega)|((first|apply cJ|apply cK|apply cI)<;>intro h<;>try simp only [h]))
  all_goals rfl
 ·rw [zG hw] at h; cases h
theorem aIk:∀ (k:Nat) (v:List Int),v.length<=k->(∀ n∈v,iJ n)->iJ (oM v)
 | 0,v,h,hv=>by
  obtain rfl:=List.length_eq_zero_iff.1 (by omega:v.length=0)
  rw [oM,dif_pos (by decide)]
  exact ⟨by decide,by decide⟩
 | k + 1,v,h,hv=>by
  by_cases h1:v.length<=1
  ·rw [oM,dif_pos h1]
   cases v with
   | nil=>exact ⟨by decide,by decide⟩
   | cons a r=>exact hv a aW
  ·rw [<- zP h1]
   exact aIk k _ (by have:=pA v; omega) (x6 v hv)
theorem aD8 {o:Off} (p:Cs->Bool) (h:dV o=true):aBk (nV p o.cs):=by
 have hp:=eT h
 have hl:=tO p o.cs
 refine ⟨by omega,fun n hn=>?_⟩
 obtain ⟨x,hx,rfl⟩:=aS.1 hn
 have:=fT (hp.2.2.2.2.2.2.2.2.2 x (List.mem_filter.1 hx).1)
 exact ⟨by omega,by simp only [eA]; omega⟩
theorem aPP {o:Off} (h:dV o=true):aBk (aJf o):=by
 have hp:=eT h
 refine ⟨by simp [aJf],fun n hn=>?_⟩
 simp only [aJf,bG,List.not_mem_nil,or_false] at hn
 simp only [eA]
 omega
theorem aVj:aBk []:=⟨by decide,fun n hn=>by cases hn⟩
theorem aIQ (o:Off) (h:dV o=true):Fn prog 107 [o.s] (fun rs=>rs=[.sl false 1 (dl iD (nV (tK o) o.cs)),.bool true]):=by
 have h1:=aJE o (fI h)
 unfold aCD at h1
 rw [if_pos h] at h1
 simpa [D.unown,dW] using fE h1
theorem aIF (o:Off) (h:dV o=true):Fn prog 119 [o.s] (fun rs=>rs=[.sl false 1 (dl iD (nV (tK o) o.cs)),.bool true]):=by
 have h1:=aJA o (fI h)
 unfold aCD at h1
 rw [if_pos h] at h1
 simpa [D.unown,dW] using fE h1
theorem aHR (o:Off) (h:dV o=true):Fn prog 108 [o.s] (fun rs=>rs=[.sl false 1 (dl iD (nV (sY o) o.cs)),.bool true]):=by
 have h1:=aJ2 o (fI h)
 unfold aCD at h1
 rw [if_pos h] at h1
 simpa [D.unown,dW] using fE h1
theorem aIL (o:Off) (h:dV o=true):Fn prog 121 [o.s] (fun rs=>rs=[.sl false 1 (dl iD (nV (sY o) o.cs)),.bool true]):=by
 have h1:=aC2 o (fI h)
 unfold aCD at h1
 rw [if_pos h] at h1
 simpa [D.unown,dW] using fE h1
def aIg (n:Int) (o:Off):List Int:=if dE n 1 9=true then nV (aDd n) o.cs else []
theorem aCS {o:Off} (n:Int) (h:dV o=true):aBk (aIg n o):=by
 unfold aIg
 split
 ·exact aD8 _ h
 ·exact aVj
theorem aCX {o:Off} (n:Int) (h:dV o=true):aBx n o=if dE n 1 9=true then some (aIg n o) else none:=by
 unfold aBx aIg
 rw [h]
 cases dE n 1 9<;>rfl
theorem aXM {o:Off} {n:Int} (h:dV o=true):(aMc n o).map D.unown=[.sl false 1 (dl iD (aIg n o)),.bool (dE n 1 9)]:=by
 unfold aMc aIg
 cases hw:dE n 1 9 with
 | true=>rw [if_pos ⟨h,rfl⟩,if_pos rfl]; simp [D.unown,dW]
 | false=>rw [if_neg (fun e=>by cases e.2),if_neg (fun e=>by cases e)]; simp [D.unown]; rfl
theorem aAm (o:Off) (n:Int) (h:dV o=true):Fn prog 105 [o.s,.int .i64 n] (fun rs=>rs=[.sl false 1 (dl iD (aIg n o)),.bool (dE n 1 9)]):=by
 have h1:=fE (aI9 o n (fI h))
 rw [aXM h] at h1
 exact h1
theorem aAZ (o:Off) (n:Int) (h:dV o=true):Fn prog 123 [o.s,.int .i64 n] (fun rs=>rs=[.sl false 1 (dl iD (aIg n o)),.bool (dE n 1 9)]):=by
 have h1:=fE (aJb o n (fI h))
 rw [aXM h] at h1
 exact h1
def aAF (o:Off):Int:=if e9 o.led=true then oM (o.led.map lI) else 0
theorem aJg {o:Off}:iJ (aAF o):=by
 unfold aAF
 split
 ·exact aIk _ _ (aI _) (fun n hn=>by
   obtain ⟨s,_,rfl⟩:=aS.1 hn
   exact aIH s)
 ·exact ⟨by decide,by decide⟩
theorem aHM {o:Off} (h:dV o=true):aF5 o=[.int .i64 (aAF o),.bool (e9 o.led)]:=by
 unfold aF5 aAF
 cases hl:e9 o.led with
 | true=>rw [if_pos ⟨h,rfl⟩,if_pos rfl]
 | false=>rw [if_neg (fun e=>by cases e.2),if_neg (fun e=>by cases e)]
theorem aHz {o:Off} (h:dV o=true):aFI o=if e9 o.led=true then some (aAF o) else none:=by
 unfold aFI aAF
 cases hl:e9 o.led with
 | true=>rw [if_pos ⟨h,rfl⟩,if_pos rfl,if_pos rfl]
 | false=>rw [if_neg (fun e=>by cases e.2),if_neg (fun e=>by cases e)]
def aK2 (o:Off) (id:Int):List UInt8:=(k9 o id).getD []
theorem aAH {o:Off} (h:dV o=true) (id:Int):aDB o id=[.str (aK2 o id),.bool (k9 o id).isSome]:=by
 unfold aDB aK2 k9
 rw [if_pos h]
 by_cases h2:0<=gM o.cs id
 ·rw [if_pos h2,if_pos ⟨h,h2⟩]; rfl
 ·rw [if_neg h2,if_neg (fun e=>h2 e.2)]; rfl
def aNw (x:Option (List UInt8)) (rs:List D):Prop:=∃ t,rs=[.str t,.bool x.isSome]/\∀ r,x=some r->t=r
theorem jS {x:List UInt8}:aNw (some x) [.str x,.bool true]:=⟨_,rfl,fun r e=>by injection e⟩
theorem jR {o:Off} {a:Int}:aNw (k9 o a) [.str (aK2 o a),.bool (k9 o a).isSome]:=⟨_,rfl,fun r e=>by unfold aK2; rw [e]; rfl⟩
theorem nA {α:Type} {c:Bool} {l:α} {f:α->List UInt8}:aNw ((if c=true then some l else none).map f) [.str (f l),.bool c]:=by
 cases c
 ·exact ⟨_,rfl,fun r e=>by cases e⟩
 ·exact ⟨_,rfl,fun r e=>by injection e⟩
end Go.Pe.Tryz
