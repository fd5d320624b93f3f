/- Steps of an office: the reference's l25Make; walked; Steps of an office: the reference's StepOffice and RunOffice; walked; Steps of an office: the law of StepOffice; Runs of steps of an office: the reference's RunOffice; walked; Runs of steps of an office: the law of RunOffice; Runs of steps of an office: the law of RunOffice, walked; What draws, by a cursor whose bytes are told by their value: a byte, a number, once in n times, one of some numbers; What draws: a step of an office; A variable is let go, its views with it: they read as data from here on; Steps of an office: plain laws of what is dealt with, blocked and released; What the laws of offices compare by, walked; What draws: an office; What draws: an office and a step, an office alone, a day; What draws: a run of steps of an office; The law of offices, walked; Records of a log: what a valid one is, walked; What a valid record is, and a record among the laws' helpers, walked; The lines of a log as plain lists of bytes: what a line is, how it is read, that there is one way alone; The law of EncodeRecord, walked -/
import Derived.Test.YtmkmjcgkcpmmpaaGreatDoorW3
import Derived.Test.YtmkmjcgkcpmmpaaGreatDoorPeD
import Derived.Test.YtmkmjcgkcpmmpaaGreatDoorMc1
import Derived.Test.YtmkmjcgkcpmmpaaGreatDoorMc2
import Derived.Test.YtmkmjcgkcpmmpaaGreatDoorMc3
import Derived.Test.YtmkmjcgkcpmmpaaGreatDoorMc4
import Derived.Test.YtmkmjcgkcpmmpaaGreatDoorMc5
import Derived.Test.YtmkmjcgkcpmmpaaGreatDoorW1
import Derived.Test.YtmkmjcgkcpmmpaaGreatDoorShelf
import Derived.Lib.ItoaNum
import Derived.Lib.IndexMore
import Derived.Test.YtmkmjcgkcpmmpaaGreatDoorW2
set_option maxRecDepth 100000
set_option maxHeartbeats 4000000
set_option linter.all false
namespace Go.Pe.Tryz
open Nat (reduceEqDiff reduceAdd reduceSub reduceLT)
open Go.Proofs.Tryz
def MkR (o:Off) (k id a v:Int) (rs:List D):Prop:=∃ q:Off,rs=[q.w,.bool (sO o k id a v).isSome]/\∀ q',sO o k id a v=some q'->q'=q
theorem aEv {o q:Off} {k id a v:Int} (h:gA o k id a v=some q):sO o k id a v=if cM q=true then some q else none:=by
 unfold sO; rw [h]; rfl
theorem pT {o q:Off} {k id a v:Int} (h:gA o k id a v=some q) {x:D} {b:Bool} (hx:x=q.w) (hb:b=cM q):MkR o k id a v [x,.bool b]:=by
 have hm:=aEv h
 refine ⟨q,?_,fun q' h'=>?_⟩
 ·rw [hx,hb,hm]
  cases cM q<;>rfl
 ·rw [hm] at h'
  split at h'
  ·injection h' with h'; exact h'.symm
  ·cases h'
theorem vI {o:Off} {k id a v:Int} (q:Off) (h:gA o k id a v=none) {x:D} (hx:x=q.w):MkR o k id a v [x,.bool false]:=by
 have hm:sO o k id a v=none:=by unfold sO; rw [h]; rfl
 exact ⟨q,by rw [hx,hm]; rfl,fun q' h'=>by rw [hm] at h'; cases h'⟩
theorem Off.w_unown (o:Off):o.w.unown=o.s:=by simp [Off.w,Off.s,cG,D.unown,eM,jG]
theorem Off.w_noOwn (o:Off):o.w.noOwn=false:=by simp [Off.w,cG,D.noOwn]
theorem o4 {o q:Off} {k id a v:Int} (ho:cM o=true) (h:gA o k id a v=some q):q.ok0:=by
 have hp:=dG ho
 have h0:=jA ho
 have hc:∀ (i:Nat) (x:Cs),o.cs[i]?=some x->d7 x=true:=fun i x hr=>hp.2.2.2.2.2.2.2.2.2 x (List.mem_of_getElem? hr)
 unfold gA at h
 split at h
 ·split at h
  ·cases h
  ·injection h with h; subst h; exact h0
 split at h
 ·split at h
  ·cases h
  ·injection h with h
   subst h
   refine ⟨⟨?_,fun x hx=>?_⟩,h0.2⟩
   ·simp [gM]; omega
   ·rcases List.mem_append.1 hx with hx|hx
    ·exact h0.1.2 x (List.mem_of_mem_take hx)
    ·rcases List.mem_cons.1 hx with rfl|hx
     ·simp [Cs.ok0]
     ·exact h0.1.2 x (List.mem_of_mem_drop hx)
 split at h
 ·split at h
  ·injection h with h
   subst h
   refine ⟨⟨by simpa using h0.1.1,fun x hx=>?_⟩,h0.2⟩
   obtain ⟨y,hy,rfl⟩:=List.mem_map.1 hx
   exact Nat.le_trans (List.length_filter_le (fun n=>!decide (n=v)) y.h) (h0.1.2 y hy)
  ·cases h
 split at h
 ·rename_i x hr
  have hxc:=dX (hc _ x hr)
  split at h
  ·split at h
   ·cases h
   ·injection h with h
    subst h
    refine ⟨xN h0.1 ?_,h0.2⟩
    show (jS v x.h).length<=1048576
    rw [aCX]; omega
  ·split at h
   ·split at h
    ·cases h
    ·injection h with h
     subst h
     refine ⟨xN h0.1 ?_,h0.2⟩
     show x.h.length<=1048576
     omega
   ·split at h
    ·injection h with h
     subst h
     have he:∀ i,rS (o.cs.eraseIdx i):=fun i=>⟨by have:=List.length_eraseIdx_le o.cs i; omega,fun y hy=>h0.1.2 y (List.mem_of_mem_eraseIdx hy)⟩
     unfold jM
     split
     ·exact ⟨he _,h0.2⟩
     ·split
      ·exact ⟨he _,h0.2⟩
      ·refine ⟨he _,by simp; omega,fun s hs=>?_⟩
       rcases List.mem_append.1 hs with hs|hs
       ·exact h0.2.2 s hs
       ·rw [List.mem_singleton.1 hs]
        have h1:=fA x.i (by simp only [cV]; omega)
        have h2:=fA o.day (by simp only [cV]; omega)
        simp [kM]; omega
    ·cases h
 ·cases h
theorem aJb (o:Off) (id a v:Int) (ho:cM o=true) (hs:kY o 1 id a v=true):Fn prog 42 [o.s,lG 1 id a v] (MkR o 1 id a v):=by
 have hk1:decide ((1:Int)=1)=true:=rfl
 have hk2:decide ((1:Int)=2)=false:=rfl
 have hk3:decide ((1:Int)=3)=false:=rfl
 have hk4:decide ((1:Int)=4)=false:=rfl
 have hk5:decide ((1:Int)=5)=false:=rfl
 have hp:=dG ho
 have ho0:=jA ho
 have hO:=jV o ho0
 have hF:=jN o id ho0
 have hv:1<=v:=by simp [kY] at hs; exact hs.2
 refine fK (ps:=[[1,0],[1,0]]) (fn:=f42) (by exact func42) c42 r42 (n:=118) (by rfl) (rv:=[.cell 4 27,.tmp 5]) (by rfl) (by simp) ?_
 unfold m42
 try simp only [wQ]
 simp only [dP,eR]
 simp only [lG]
 repeat' (first|(simp only [Off.s_noOwn,Off.s_isV,aV,↓wA,↓wC,wB,aY,aW,reduceEqDiff,reduceAdd,reduceSub,reduceIte,reduceCtorEq,Nat.reduceBEq,reduceLT,bU])|((first|apply aO|apply aQ|apply aK)<;>intro h<;>try simp only [h]))
 refine bR (gG 0 rfl) ?_
 simp only [aY,aW,Off.s_unown,↓wA,↓wC,wB,aY,aW,reduceEqDiff,reduceAdd,reduceSub,reduceIte,reduceCtorEq,Nat.reduceBEq,reduceLT,bU]
 refine bR (gG 1 rfl) ?_
 simp only [aY,aW,D.unown,↓wA,↓wC,wB,aY,aW,reduceEqDiff,reduceAdd,reduceSub,reduceIte,reduceCtorEq,Nat.reduceBEq,reduceLT,bU]
 have hf0:∀ K:SV->Prop,bY 0 0 (.d (.ptr o.s)) K=K (.d (.ptr (.int .i64 o.day))):=fun K=>by simp [Off.s,cG,bY,D.pre,D.nth,D.size]
 have hf1:∀ K:SV->Prop,bY 1 1 (.d (.ptr o.s)) K=K (.d (.ptr (.sl false 4 (dl Cs.s o.cs)))):=fun K=>by simp [Off.s,cG,bY,D.pre,D.nth,D.size]
 cases hd:decide (20000 - o.day < v) with
 | true =>
  have hM:gA o 1 id a v=none:=by unfold gA; rw [if_pos rfl,if_pos (of_decide_eq_true hd)]
  repeat' (first|(simp only [hk1,hk2,hk3,hk4,hk5,Off.s_noOwn,Off.s_isV,Off.s_size,Off.w,cG,bB,bE,hf0,hf1,hd,↓b9,aV,cC,Int.toNat_natCast,↓wA,↓wC,wB,aY,aW,reduceEqDiff,reduceAdd,reduceSub,reduceIte,reduceCtorEq,Nat.reduceBEq,reduceLT,bU])|(refine cT ?_)|(with_reducible refine And.intro ?_ ?_)|(refine aZ hO (by simp [cA,cW,Off.s_unown]) rfl ?_)|(refine aZ hF (by simp [cA,cW,Off.s_unown]) rfl ?_)|(with_reducible refine bA ?_ ?_; focus (simp only [cV]; omega))|((first|apply aO|apply aQ|apply aK)<;>intro h<;>try simp only [h]))
  all_goals exact vI o hM rfl
 | false =>
  have hM:gA o 1 id a v=some { o with day:=o.day + v }:=by unfold gA; rw [if_pos rfl,if_neg (of_decide_eq_false hd)]
  have hG:=eW _ (o4 ho hM)
  have hd':=of_decide_eq_false hd
  have hu:(D.st (.cons (.int .i64 (o.day + v)) (.cons (.sl true 4 (dl Cs.s o.cs)) (.cons (.int .i64 o.kept) (.cons (.int .i64 o.moved) (.cons (.sl true 1 (dl D.str o.led)) .nil)))))).unown=Off.s { o with day:=o.day + v }:=Off.w_unown { o with day:=o.day + v }
  repeat' (first|(simp only [hk1,hk2,hk3,hk4,hk5,Off.s_noOwn,Off.s_isV,Off.s_size,Off.w,cG,bB,bE,hf0,hf1,hd,↓b9,aV,cC,Int.toNat_natCast,↓wA,↓wC,wB,aY,aW,reduceEqDiff,reduceAdd,reduceSub,reduceIte,reduceCtorEq,Nat.reduceBEq,reduceLT,bU])|(refine cT ?_)|(with_reducible refine And.intro ?_ ?_)|(refine aZ hO (by simp [cA,cW,Off.s_unown]) rfl ?_)|(refine aZ hF (by simp [cA,cW,Off.s_unown]) rfl ?_)|(with_reducible refine bA ?_ ?_; focus (simp only [cV]; omega))|(refine aZ hG (congrArg (fun d:D=>some [d]) hu) rfl ?_)|(refine a6 hG (congrArg (fun d:D=>some [d]) hu) rfl ?_)|((first|apply aO|apply aQ|apply aK)<;>intro h<;>try simp only [h]))
  all_goals exact pT hM rfl rfl
theorem aIu (o:Off) (id a v:Int) (ho:cM o=true) (hs:kY o 2 id a v=true):Fn prog 42 [o.s,lG 2 id a v] (MkR o 2 id a v):=by
 have hk1:decide ((2:Int)=1)=false:=rfl
 have hk2:decide ((2:Int)=2)=true:=rfl
 have hk3:decide ((2:Int)=3)=false:=rfl
 have hk4:decide ((2:Int)=4)=false:=rfl
 have hk5:decide ((2:Int)=5)=false:=rfl
 have hp:=dG ho
 have ho0:=jA ho
 have hO:=jV o ho0
 have hF:=jN o id ho0
 have hv:0<=v:=by simp [kY] at hs; exact hs.2
 refine fK (ps:=[[1,0],[1,0]]) (fn:=f42) (by exact func42) c42 r42 (n:=118) (by rfl) (rv:=[.cell 4 27,.tmp 5]) (by rfl) (by simp) ?_
 unfold m42
 try simp only [wQ]
 simp only [dP,eR]
 simp only [lG]
 repeat' (first|(simp only [Off.s_noOwn,Off.s_isV,aV,↓wA,↓wC,wB,aY,aW,reduceEqDiff,reduceAdd,reduceSub,reduceIte,reduceCtorEq,Nat.reduceBEq,reduceLT,bU])|((first|apply aO|apply aQ|apply aK)<;>intro h<;>try simp only [h]))
 refine bR (gG 0 rfl) ?_
 simp only [aY,aW,Off.s_unown,↓wA,↓wC,wB,aY,aW,reduceEqDiff,reduceAdd,reduceSub,reduceIte,reduceCtorEq,Nat.reduceBEq,reduceLT,bU]
 refine bR (gG 1 rfl) ?_
 simp only [aY,aW,D.unown,↓wA,↓wC,wB,aY,aW,reduceEqDiff,reduceAdd,reduceSub,reduceIte,reduceCtorEq,Nat.reduceBEq,reduceLT,bU]
 have hf0:∀ K:SV->Prop,bY 0 0 (.d (.ptr o.s)) K=K (.d (.ptr (.int .i64 o.day))):=fun K=>by simp [Off.s,cG,bY,D.pre,D.nth,D.size]
 have hf1:∀ K:SV->Prop,bY 1 1 (.d (.ptr o.s)) K=K (.d (.ptr (.sl false 4 (dl Cs.s o.cs)))):=fun K=>by simp [Off.s,cG,bY,D.pre,D.nth,D.size]
 cases hd:decide (20000 - o.day < v) with
 | true =>
  have hM:gA o 2 id a v=none:=by unfold gA; rw [if_neg (by decide),if_pos rfl,if_pos (of_decide_eq_true hd)]
  repeat' (first|(simp only [hk1,hk2,hk3,hk4,hk5,Off.s_noOwn,Off.s_isV,Off.s_size,Off.w,cG,bB,bE,hf0,hf1,hd,↓b9,aV,cC,Int.toNat_natCast,Option.map_some,a7,bW,↓wA,↓wC,wB,aY,aW,reduceEqDiff,reduceAdd,reduceSub,reduceIte,reduceCtorEq,Nat.reduceBEq,reduceLT,bU])|(refine cT ?_)|(with_reducible refine And.intro ?_ ?_)|(refine aZ hO (by simp [cA,cW,Off.s_unown]) rfl ?_)|(refine aZ hF (by simp [cA,cW,Off.s_unown]) rfl ?_)|(with_reducible refine bA ?_ ?_; focus (simp only [cV]; omega))|((first|apply aO|apply aQ|apply aK)<;>intro h<;>try simp only [h]))
  all_goals exact vI o hM rfl
 | false =>
  have hM:gA o 2 id a v=some { o with cs:=gM ⟨id,a,o.day + v,[]⟩ o.cs }:=by unfold gA; rw [if_neg (by decide),if_pos rfl,if_neg (of_decide_eq_false hd)]
  have hG:=eW _ (o4 ho hM)
  have hd':=of_decide_eq_false hd
  have hE:=aDi o 2 id a v ho0 (by simp only [cV]; omega)
  simp only [lG] at hE
  have hu:(D.st (.cons (.int .i64 o.day) (.cons (.sl true 4 (dl Cs.s (gM ⟨id,a,o.day + v,[]⟩ o.cs))) (.cons (.int .i64 o.kept) (.cons (.int .i64 o.moved) (.cons (.sl true 1 (dl D.str o.led)) .nil)))))).unown=Off.s { o with cs:=gM ⟨id,a,o.day + v,[]⟩ o.cs }:=Off.w_unown { o with cs:=gM ⟨id,a,o.day + v,[]⟩ o.cs }
  repeat' (first|(simp only [hk1,hk2,hk3,hk4,hk5,Off.s_noOwn,Off.s_isV,Off.s_size,Off.w,cG,bB,bE,hf0,hf1,hd,↓b9,aV,cC,Int.toNat_natCast,Option.map_some,a7,bW,↓wA,↓wC,wB,aY,aW,reduceEqDiff,reduceAdd,reduceSub,reduceIte,reduceCtorEq,Nat.reduceBEq,reduceLT,bU])|(refine cT ?_)|(with_reducible refine And.intro ?_ ?_)|(refine aZ hO (by simp [cA,cW,Off.s_unown]) rfl ?_)|(refine aZ hF (by simp [cA,cW,Off.s_unown]) rfl ?_)|(with_reducible refine bA ?_ ?_; focus (simp only [cV]; omega))|(refine aZ hE (by simp [cA,cW,Off.s_unown,D.unown]) rfl ?_)|(refine aZ hG (congrArg (fun d:D=>some [d]) hu) rfl ?_)|(refine a6 hG (congrArg (fun d:D=>some [d]) hu) rfl ?_)|((first|apply aO|apply aQ|apply aK)<;>intro h<;>try simp only [h]))
  all_goals exact pT hM rfl rfl
theorem aI5 (o:Off) (id a v:Int) (ho:cM o=true) (hs:kY o 4 id a v=true):Fn prog 42 [o.s,lG 4 id a v] (MkR o 4 id a v):=by
 have hk1:decide ((4:Int)=1)=false:=rfl
 have hk2:decide ((4:Int)=2)=false:=rfl
 have hk3:decide ((4:Int)=3)=false:=rfl
 have hk4:decide ((4:Int)=4)=true:=rfl
 have hk5:decide ((4:Int)=5)=false:=rfl
 have hp:=dG ho
 have ho0:=jA ho
 have hO:=jV o ho0
 have hF:=jN o id ho0
 have hE:=aAQ o v ho0
 have hd:True:=trivial
 cases hc:oK v o.cs with
 | true =>
  have hM:gA o 4 id a v=some { o with cs:=o.cs.map (l9 v) }:=by unfold gA; rw [if_neg (by decide),if_neg (by decide),if_pos rfl,if_pos hc]
  have hG:=eW _ (o4 ho hM)
  have hu:(D.st (.cons (.int .i64 o.day) (.cons (.sl true 4 (dl Cs.s (o.cs.map (l9 v)))) (.cons (.int .i64 o.kept) (.cons (.int .i64 o.moved) (.cons (.sl true 1 (dl D.str o.led)) .nil)))))).unown=Off.s { o with cs:=o.cs.map (l9 v) }:=Off.w_unown { o with cs:=o.cs.map (l9 v) }
  rw [hc] at hE
  refine fK (ps:=[[1,0],[1,0]]) (fn:=f42) (by exact func42) c42 r42 (n:=118) (by rfl) (rv:=[.cell 4 27,.tmp 5]) (by rfl) (by simp) ?_
  unfold m42
  try simp only [wQ]
  simp only [dP,eR]
  simp only [lG]
  repeat' (first|(simp only [Off.s_noOwn,Off.s_isV,aV,↓wA,↓wC,wB,aY,aW,reduceEqDiff,reduceAdd,reduceSub,reduceIte,reduceCtorEq,Nat.reduceBEq,reduceLT,bU])|((first|apply aO|apply aQ|apply aK)<;>intro h<;>try simp only [h]))
  refine bR (gG 0 rfl) ?_
  simp only [aY,aW,Off.s_unown,↓wA,↓wC,wB,aY,aW,reduceEqDiff,reduceAdd,reduceSub,reduceIte,reduceCtorEq,Nat.reduceBEq,reduceLT,bU]
  refine bR (gG 1 rfl) ?_
  simp only [aY,aW,D.unown,↓wA,↓wC,wB,aY,aW,reduceEqDiff,reduceAdd,reduceSub,reduceIte,reduceCtorEq,Nat.reduceBEq,reduceLT,bU]
  have hf0:∀ K:SV->Prop,bY 0 0 (.d (.ptr o.s)) K=K (.d (.ptr (.int .i64 o.day))):=fun K=>by simp [Off.s,cG,bY,D.pre,D.nth,D.size]
  have hf1:∀ K:SV->Prop,bY 1 1 (.d (.ptr o.s)) K=K (.d (.ptr (.sl false 4 (dl Cs.s o.cs)))):=fun K=>by simp [Off.s,cG,bY,D.pre,D.nth,D.size]
  repeat' (first|(simp only [hk1,hk2,hk3,hk4,hk5,Off.s_noOwn,Off.s_isV,Off.s_size,Off.w,cG,bB,bE,hf0,hf1,hd,↓b9,aV,cC,Int.toNat_natCast,Option.map_some,a7,bW,↓wA,↓wC,wB,aY,aW,reduceEqDiff,reduceAdd,reduceSub,reduceIte,reduceCtorEq,Nat.reduceBEq,reduceLT,bU])|(refine cT ?_)|(with_reducible refine And.intro ?_ ?_)|(refine aZ hO (by simp [cA,cW,Off.s_unown]) rfl ?_)|(refine aZ hF (by simp [cA,cW,Off.s_unown]) rfl ?_)|(with_reducible refine bA ?_ ?_; focus (simp only [cV]; omega))|(refine aZ hE (by simp [cA,cW,Off.s_unown]) rfl ?_)|(refine aZ hG (congrArg (fun d:D=>some [d]) hu) rfl ?_)|(refine a6 hG (congrArg (fun d:D=>some [d]) hu) rfl ?_)|((first|apply aO|apply aQ|apply aK)<;>intro h<;>try simp only [h]))
  all_goals exact pT hM rfl rfl
 | false =>
  have hM:gA o 4 id a v=none:=by unfold gA; rw [if_neg (by decide),if_neg (by decide),if_pos rfl,if_neg (by rw [hc]; decide)]
  rw [hc] at hE
  refine fK (ps:=[[1,0],[1,0]]) (fn:=f42) (by exact func42) c42 r42 (n:=118) (by rfl) (rv:=[.cell 4 27,.tmp 5]) (by rfl) (by simp) ?_
  unfold m42
  try simp only [wQ]
  simp only [dP,eR]
  simp only [lG]
  repeat' (first|(simp only [Off.s_noOwn,Off.s_isV,aV,↓wA,↓wC,wB,aY,aW,reduceEqDiff,reduceAdd,reduceSub,reduceIte,reduceCtorEq,Nat.reduceBEq,reduceLT,bU])|((first|apply aO|apply aQ|apply aK)<;>intro h<;>try simp only [h]))
  refine bR (gG 0 rfl) ?_
  simp only [aY,aW,Off.s_unown,↓wA,↓wC,wB,aY,aW,reduceEqDiff,reduceAdd,reduceSub,reduceIte,reduceCtorEq,Nat.reduceBEq,reduceLT,bU]
  refine bR (gG 1 rfl) ?_
  simp only [aY,aW,D.unown,↓wA,↓wC,wB,aY,aW,reduceEqDiff,reduceAdd,reduceSub,reduceIte,reduceCtorEq,Nat.reduceBEq,reduceLT,bU]
  have hf0:∀ K:SV->Prop,bY 0 0 (.d (.ptr o.s)) K=K (.d (.ptr (.int .i64 o.day))):=fun K=>by simp [Off.s,cG,bY,D.pre,D.nth,D.size]
  have hf1:∀ K:SV->Prop,bY 1 1 (.d (.ptr o.s)) K=K (.d (.ptr (.sl false 4 (dl Cs.s o.cs)))):=fun K=>by simp [Off.s,cG,bY,D.pre,D.nth,D.size]
  repeat' (first|(simp only [hk1,hk2,hk3,hk4,hk5,Off.s_noOwn,Off.s_isV,Off.s_size,Off.w,cG,bB,bE,hf0,hf1,hd,↓b9,aV,cC,Int.toNat_natCast,Option.map_some,a7,bW,↓wA,↓wC,wB,aY,aW,reduceEqDiff,reduceAdd,reduceSub,reduceIte,reduceCtorEq,Nat.reduceBEq,reduceLT,bU])|(refine cT ?_)|(with_reducible refine And.intro ?_ ?_)|(refine aZ hO (by simp [cA,cW,Off.s_unown]) rfl ?_)|(refine aZ hF (by simp [cA,cW,Off.s_unown]) rfl ?_)|(with_reducible refine bA ?_ ?_; focus (simp only [cV]; omega))|(refine aZ hE (by simp [cA,cW,Off.s_unown]) rfl ?_)|((first|apply aO|apply aQ|apply aK)<;>intro h<;>try simp only [h]))
  all_goals exact vI { o with cs:=o.cs.map (l9 v) } hM rfl
theorem wR {o:Off} {id:Int} (h:decide (0<=fT o.cs id)=true):∃ (i:Nat) (x:Cs),fT o.cs id=(i:Int)/\o.cs[i]?=some x:=by
 rcases kT o.cs id with ⟨_,hn⟩|⟨i,x,hi,hr,_⟩
 ·rw [hn] at h; cases h
 ·exact ⟨i,x,hi,hr⟩
theorem aIr (o:Off) (id a v:Int) (ho:cM o=true) (hs:kY o 6 id a v=true):Fn prog 42 [o.s,lG 6 id a v] (MkR o 6 id a v):=by
 have hk1:decide ((6:Int)=1)=false:=rfl
 have hk2:decide ((6:Int)=2)=false:=rfl
 have hk3:decide ((6:Int)=3)=false:=rfl
 have hk4:decide ((6:Int)=4)=false:=rfl
 have hk5:decide ((6:Int)=5)=false:=rfl
 have hp:=dG ho
 have ho0:=jA ho
 have hO:=jV o ho0
 have hF:=jN o id ho0
 have hd:True:=trivial
 obtain ⟨i,x,hi,hr⟩:=wR (o:=o) (id:=id) (by simp [kY] at hs; exact decide_eq_true hs.1.1)
 have hE:=aF5 o i x ho hr
 rw [hi] at hF
 have hM0:gA o 6 id a v=if cY o x=true then some (jM o i x) else none:=by
  unfold gA
  rw [if_neg (by decide),if_neg (by decide),if_neg (by decide),hi,Int.toNat_natCast,hr]
  simp
 have hwu:=Off.w_unown (jM o i x)
 have hwV:∀ q:Off,q.w.isV=true:=fun _=>rfl
 have hwS:∀ q:Off,q.w.size=5:=fun _=>rfl
 have hwN:=Off.w_noOwn
 have hwB:∀ q:Off,q.w.isStB=true:=fun _=>rfl
 generalize hq:jM o i x=q at hE hM0 hwu
 cases hc:cY o x with
 | true =>
  have hM:gA o 6 id a v=some q:=by rw [hM0,if_pos hc]
  have hG:=eW _ (o4 ho hM)
  rw [hc,Bool.true_and] at hE
  cases hk:cM q with
  | true =>
   rw [hk] at hE hG
   refine fK (ps:=[[1,0],[1,0]]) (fn:=f42) (by exact func42) c42 r42 (n:=118) (by rfl) (rv:=[.cell 4 27,.tmp 5]) (by rfl) (by simp) ?_
   unfold m42
   try simp only [wQ]
   simp only [dP,eR]
   simp only [lG]
   repeat' (first|(simp only [Off.s_noOwn,Off.s_isV,aV,↓wA,↓wC,wB,aY,aW,reduceEqDiff,reduceAdd,reduceSub,reduceIte,reduceCtorEq,Nat.reduceBEq,reduceLT,bU])|((first|apply aO|apply aQ|apply aK)<;>intro h<;>try simp only [h]))
   refine bR (gG 0 rfl) ?_
   simp only [aY,aW,Off.s_unown,↓wA,↓wC,wB,aY,aW,reduceEqDiff,reduceAdd,reduceSub,reduceIte,reduceCtorEq,Nat.reduceBEq,reduceLT,bU]
   refine bR (gG 1 rfl) ?_
   simp only [aY,aW,D.unown,↓wA,↓wC,wB,aY,aW,reduceEqDiff,reduceAdd,reduceSub,reduceIte,reduceCtorEq,Nat.reduceBEq,reduceLT,bU]
   have hf0:∀ K:SV->Prop,bY 0 0 (.d (.ptr o.s)) K=K (.d (.ptr (.int .i64 o.day))):=fun K=>by simp [Off.s,cG,bY,D.pre,D.nth,D.size]
   have hf1:∀ K:SV->Prop,bY 1 1 (.d (.ptr o.s)) K=K (.d (.ptr (.sl false 4 (dl Cs.s o.cs)))):=fun K=>by simp [Off.s,cG,bY,D.pre,D.nth,D.size]
   repeat' (first|(simp only [hwV,hwS,hwN,hwB,hk1,hk2,hk3,hk4,hk5,Off.s_noOwn,Off.s_isV,Off.s_size,bB,bE,hf0,hf1,hd,↓b9,aV,cC,Int.toNat_natCast,Option.map_some,a7,bW,↓wA,↓wC,wB,aY,aW,reduceEqDiff,reduceAdd,reduceSub,reduceIte,reduceCtorEq,Nat.reduceBEq,reduceLT,bU])|(refine cT ?_)|(with_reducible refine And.intro ?_ ?_)|(refine aZ hO (by simp [cA,cW,Off.s_unown]) rfl ?_)|(refine aZ hF (by simp [cA,cW,Off.s_unown]) rfl ?_)|(with_reducible refine bA ?_ ?_; focus (simp only [cV]; omega))|(refine aZ hE (by simp [cA,cW,Off.s_unown]) rfl ?_)|(refine aZ hG (congrArg (fun d:D=>some [d]) hwu) rfl ?_)|(refine a6 hG (congrArg (fun d:D=>some [d]) hwu) rfl ?_)|((first|apply aO|apply aQ|apply aK)<;>intro h<;>try simp only [h]))
   all_goals exact oA _ rfl (bK rfl (bK rfl (bK rfl (pT hM rfl hk.symm))))
  | false =>
   rw [hk] at hE hG
   refine fK (ps:=[[1,0],[1,0]]) (fn:=f42) (by exact func42) c42 r42 (n:=118) (by rfl) (rv:=[.cell 4 27,.tmp 5]) (by rfl) (by simp) ?_
   unfold m42
   try simp only [wQ]
   simp only [dP,eR]
   simp only [lG]
   repeat' (first|(simp only [Off.s_noOwn,Off.s_isV,aV,↓wA,↓wC,wB,aY,aW,reduceEqDiff,reduceAdd,reduceSub,reduceIte,reduceCtorEq,Nat.reduceBEq,reduceLT,bU])|((first|apply aO|apply aQ|apply aK)<;>intro h<;>try simp only [h]))
   refine bR (gG 0 rfl) ?_
   simp only [aY,aW,Off.s_unown,↓wA,↓wC,wB,aY,aW,reduceEqDiff,reduceAdd,reduceSub,reduceIte,reduceCtorEq,Nat.reduceBEq,reduceLT,bU]
   refine bR (gG 1 rfl) ?_
   simp only [aY,aW,D.unown,↓wA,↓wC,wB,aY,aW,reduceEqDiff,reduceAdd,reduceSub,reduceIte,reduceCtorEq,Nat.reduceBEq,reduceLT,bU]
   have hf0:∀ K:SV->Prop,bY 0 0 (.d (.ptr o.s)) K=K (.d (.ptr (.int .i64 o.day))):=fun K=>by simp [Off.s,cG,bY,D.pre,D.nth,D.size]
   have hf1:∀ K:SV->Prop,bY 1 1 (.d (.ptr o.s)) K=K (.d (.ptr (.sl false 4 (dl Cs.s o.cs)))):=fun K=>by simp [Off.s,cG,bY,D.pre,D.nth,D.size]
   repeat' (first|(simp only [hwV,hwS,hwN,hwB,hk1,hk2,hk3,hk4,hk5,Off.s_noOwn,Off.s_isV,Off.s_size,bB,bE,hf0,hf1,hd,↓b9,aV,cC,Int.toNat_natCast,Option.map_some,a7,bW,↓wA,↓wC,wB,aY,aW,reduceEqDiff,reduceAdd,reduceSub,reduceIte,reduceCtorEq,Nat.reduceBEq,reduceLT,bU])|(refine cT ?_)|(with_reducible refine And.intro ?_ ?_)|(refine aZ hO (by simp [cA,cW,Off.s_unown]) rfl ?_)|(refine aZ hF (by simp [cA,cW,Off.s_unown]) rfl ?_)|(with_reducible refine bA ?_ ?_; focus (simp only [cV]; omega))|(refine aZ hE (by simp [cA,cW,Off.s_unown]) rfl ?_)|((first|apply aO|apply aQ|apply aK)<;>intro h<;>try simp only [h]))
   all_goals exact oA _ rfl (bK rfl (bK rfl (bK rfl (pT hM rfl hk.symm))))
 | false =>
  have hM:gA o 6 id a v=none:=by rw [hM0,if_neg (by rw [hc]; decide)]
  rw [hc,Bool.false_and] at hE
  refine fK (ps:=[[1,0],[1,0]]) (fn:=f42) (by exact func42) c42 r42 (n:=118) (by rfl) (rv:=[.cell 4 27,.tmp 5]) (by rfl) (by simp) ?_
  unfold m42
  try simp only [wQ]
  simp only [dP,eR]
  simp only [lG]
  repeat' (first|(simp only [Off.s_noOwn,Off.s_isV,aV,↓wA,↓wC,wB,aY,aW,reduceEqDiff,reduceAdd,reduceSub,reduceIte,reduceCtorEq,Nat.reduceBEq,reduceLT,bU])|((first|apply aO|apply aQ|apply aK)<;>intro h<;>try simp only [h]))
  refine bR (gG 0 rfl) ?_
  simp only [aY,aW,Off.s_unown,↓wA,↓wC,wB,aY,aW,reduceEqDiff,reduceAdd,reduceSub,reduceIte,reduceCtorEq,Nat.reduceBEq,reduceLT,bU]
  refine bR (gG 1 rfl) ?_
  simp only [aY,aW,D.unown,↓wA,↓wC,wB,aY,aW,reduceEqDiff,reduceAdd,reduceSub,reduceIte,reduceCtorEq,Nat.reduceBEq,reduceLT,bU]
  have hf0:∀ K:SV->Prop,bY 0 0 (.d (.ptr o.s)) K=K (.d (.ptr (.int .i64 o.day))):=fun K=>by simp [Off.s,cG,bY,D.pre,D.nth,D.size]
  have hf1:∀ K:SV->Prop,bY 1 1 (.d (.ptr o.s)) K=K (.d (.ptr (.sl false 4 (dl Cs.s o.cs)))):=fun K=>by simp [Off.s,cG,bY,D.pre,D.nth,D.size]
  repeat' (first|(simp only [hwV,hwS,hwN,hwB,hk1,hk2,hk3,hk4,hk5,Off.s_noOwn,Off.s_isV,Off.s_size,bB,bE,hf0,hf1,hd,↓b9,aV,cC,Int.toNat_natCast,Option.map_some,a7,bW,↓wA,↓wC,wB,aY,aW,reduceEqDiff,reduceAdd,reduceSub,reduceIte,reduceCtorEq,Nat.reduceBEq,reduceLT,bU])|(refine cT ?_)|(with_reducible refine And.intro ?_ ?_)|(refine aZ hO (by simp [cA,cW,Off.s_unown]) rfl ?_)|(refine aZ hF (by simp [cA,cW,Off.s_unown]) rfl ?_)|(with_reducible refine bA ?_ ?_; focus (simp only [cV]; omega))|(refine aZ hE (by simp [cA,cW,Off.s_unown]) rfl ?_)|((first|apply aO|apply aQ|apply aK)<;>intro h<;>try simp only [h]))
  all_goals exact oA _ rfl (bK rfl (bK rfl (bK rfl (vI q hM rfl))))
theorem aHr (o:Off) (id a v:Int) (ho:cM o=true) (hs:kY o 3 id a v=true):Fn prog 42 [o.s,lG 3 id a v] (MkR o 3 id a v):=by
 have hk1:decide ((3:Int)=1)=false:=rfl
 have hk2:decide ((3:Int)=2)=false:=rfl
 have hk3:decide ((3:Int)=3)=true:=rfl
 have hk4:decide ((3:Int)=4)=false:=rfl
 have hk5:decide ((3:Int)=5)=false:=rfl
 have hp:=dG ho
 have ho0:=jA ho
 have hO:=jV o ho0
 have hF:=jN o id ho0
 have hd:True:=trivial
 obtain ⟨i,x,hi,hr⟩:=wR (o:=o) (id:=id) (by simp [kY] at hs; exact decide_eq_true hs.1.1)
 have hxc:=dX (hp.2.2.2.2.2.2.2.2.2 x (List.mem_of_getElem? hr))
 have hH:=aDl x.h v (by omega)
 have hi0:(0:Int)<=(i:Int):=by omega
 rw [hi] at hF
 have hM0:gA o 3 id a v=if x.h.contains v=true then none else some { o with cs:=o.cs.set i { x with h:=jS v x.h } }:=by
  unfold gA
  rw [if_neg (by decide),if_neg (by decide),if_neg (by decide),hi,Int.toNat_natCast,hr]
  simp
 have hgn:(dl Cs.s o.cs).nth i=some (x.p (.sl false 1 (dl iD x.h))):=by rw [bW,hr]; rfl
 have hgs:∀ (y:D),((dl Cs.s o.cs).setN i y).nth i=some y:=fun y=>by rw [m9,if_pos rfl,hgn]; rfl
 have hfx:∀ K:SV->Prop,bY 3 3 (.d (.ptr x.s)) K=K (.d (.ptr (.sl false 1 (dl iD x.h)))):=fun K=>tL
 cases hc:x.h.contains v with
 | true =>
  rw [hc] at hH
  have hM:gA o 3 id a v=none:=by rw [hM0,if_pos hc]
  refine fK (ps:=[[1,0],[1,0]]) (fn:=f42) (by exact func42) c42 r42 (n:=118) (by rfl) (rv:=[.cell 4 27,.tmp 5]) (by rfl) (by simp) ?_
  unfold m42
  try simp only [wQ]
  simp only [dP,eR]
  simp only [lG]
  repeat' (first|(simp only [Off.s_noOwn,Off.s_isV,aV,↓wA,↓wC,wB,aY,aW,reduceEqDiff,reduceAdd,reduceSub,reduceIte,reduceCtorEq,Nat.reduceBEq,reduceLT,bU])|((first|apply aO|apply aQ|apply aK)<;>intro h<;>try simp only [h]))
  refine bR (gG 0 rfl) ?_
  simp only [aY,aW,Off.s_unown,↓wA,↓wC,wB,aY,aW,reduceEqDiff,reduceAdd,reduceSub,reduceIte,reduceCtorEq,Nat.reduceBEq,reduceLT,bU]
  refine bR (gG 1 rfl) ?_
  simp only [aY,aW,D.unown,↓wA,↓wC,wB,aY,aW,reduceEqDiff,reduceAdd,reduceSub,reduceIte,reduceCtorEq,Nat.reduceBEq,reduceLT,bU]
  have hf0:∀ K:SV->Prop,bY 0 0 (.d (.ptr o.s)) K=K (.d (.ptr (.int .i64 o.day))):=fun K=>by simp [Off.s,cG,bY,D.pre,D.nth,D.size]
  have hf1:∀ K:SV->Prop,bY 1 1 (.d (.ptr o.s)) K=K (.d (.ptr (.sl false 4 (dl Cs.s o.cs)))):=fun K=>by simp [Off.s,cG,bY,D.pre,D.nth,D.size]
  repeat' (first|(simp only [hk1,hk2,hk3,hk4,hk5,Off.s_noOwn,Off.s_isV,Off.s_size,Off.w,cG,bB,bE,hf0,hf1,hd,↓b9,aV,cC,Int.toNat_natCast,Option.map_some,a7,bW,hi0,hr,hfx,bJ,↓wA,↓wC,wB,aY,aW,reduceEqDiff,reduceAdd,reduceSub,reduceIte,reduceCtorEq,Nat.reduceBEq,reduceLT,bU])|(refine cT ?_)|(with_reducible refine And.intro ?_ ?_)|(refine aZ hO (by simp [cA,cW,Off.s_unown]) rfl ?_)|(refine aZ hF (by simp [cA,cW,Off.s_unown]) rfl ?_)|(with_reducible refine bA ?_ ?_; focus (simp only [cV]; omega))|(refine aZ (hH) rfl rfl ?_)|(refine a6 (hH) rfl rfl ?_)|((first|apply aO|apply aQ|apply aK)<;>intro h<;>try simp only [h]))
  all_goals exact vI o hM rfl
 | false =>
  rw [hc] at hH
  have hM:gA o 3 id a v=some { o with cs:=o.cs.set i { x with h:=jS v x.h } }:=by rw [hM0,if_neg (by rw [hc]; decide)]
  have hG:=eW _ (o4 ho hM)
  have hnv:v ∉ x.h:=fun h=>by rw [List.contains_iff_mem.2 h] at hc; cases hc
  have hP:Fn prog 77 [.sl false 1 (dl iD x.h),.int .i64 v] (fun rs=>rs=[.sl false 1 (dl iD (jS v x.h))]):=by
   simpa [D.unown,c9] using iV (aIT x.h v (by omega) hnv)
  have hset:(dl Cs.s o.cs).setN i (x.p (.sl false 1 (dl iD (jS v x.h))))=dl Cs.s (o.cs.set i { x with h:=jS v x.h }):=by
   have e:x.p (.sl false 1 (dl iD (jS v x.h)))=Cs.s { x with h:=jS v x.h }:=rfl
   rw [e,i8]
  have hu:(D.st (.cons (.int .i64 o.day) (.cons (.sl true 4 (dl Cs.s (o.cs.set i { x with h:=jS v x.h }))) (.cons (.int .i64 o.kept) (.cons (.int .i64 o.moved) (.cons (.sl true 1 (dl D.str o.led)) .nil)))))).unown=Off.s { o with cs:=o.cs.set i { x with h:=jS v x.h } }:=Off.w_unown { o with cs:=o.cs.set i { x with h:=jS v x.h } }
  refine fK (ps:=[[1,1,1,0,1,0,1,1,1,1,1,0,1],[1,1,1,1,0],[1,0],[1,0]]) (fn:=f42) (by exact func42) c42 r42 (n:=118) (by rfl) (rv:=[.cell 4 27,.tmp 5]) (by rfl) (by simp) ?_
  unfold m42
  try simp only [wQ]
  simp only [dP,eR]
  simp only [lG]
  repeat' (first|(simp only [Off.s_noOwn,Off.s_isV,aV,↓wA,↓wC,wB,aY,aW,reduceEqDiff,reduceAdd,reduceSub,reduceIte,reduceCtorEq,Nat.reduceBEq,reduceLT,bU])|((first|apply aO|apply aQ|apply aK)<;>intro h<;>try simp only [h]))
  refine bR (gG 0 rfl) ?_
  simp only [aY,aW,Off.s_unown,↓wA,↓wC,wB,aY,aW,reduceEqDiff,reduceAdd,reduceSub,reduceIte,reduceCtorEq,Nat.reduceBEq,reduceLT,bU]
  refine bR (gG 1 rfl) ?_
  simp only [aY,aW,D.unown,↓wA,↓wC,wB,aY,aW,reduceEqDiff,reduceAdd,reduceSub,reduceIte,reduceCtorEq,Nat.reduceBEq,reduceLT,bU]
  have hf0:∀ K:SV->Prop,bY 0 0 (.d (.ptr o.s)) K=K (.d (.ptr (.int .i64 o.day))):=fun K=>by simp [Off.s,cG,bY,D.pre,D.nth,D.size]
  have hf1:∀ K:SV->Prop,bY 1 1 (.d (.ptr o.s)) K=K (.d (.ptr (.sl false 4 (dl Cs.s o.cs)))):=fun K=>by simp [Off.s,cG,bY,D.pre,D.nth,D.size]
  repeat' (first|(simp only [hk1,hk2,hk3,hk4,hk5,Off.s_noOwn,Off.s_isV,Off.s_size,Off.w,cG,bB,bE,hf0,hf1,hd,↓b9,aV,cC,Int.toNat_natCast,Option.map_some,a7,bW,hi0,hr,hfx,bJ,↓wA,↓wC,wB,aY,aW,reduceEqDiff,reduceAdd,reduceSub,reduceIte,reduceCtorEq,Nat.reduceBEq,reduceLT,bU])|(refine cT ?_)|(with_reducible refine And.intro ?_ ?_)|(refine aZ hO (by simp [cA,cW,Off.s_unown]) rfl ?_)|(refine aZ hF (by simp [cA,cW,Off.s_unown]) rfl ?_)|(with_reducible refine bA ?_ ?_; focus (simp only [cV]; omega))|(refine aZ (hH) rfl rfl ?_)|(refine a6 (hH) rfl rfl ?_)|((first|apply aO|apply aQ|apply aK)<;>intro h<;>try simp only [h]))
  refine dQ _ (eA 4 none [1] (es:=4) (xs:=dl Cs.s o.cs) rfl rfl) fun v1=>?_
  simp only [cX,↓wA,↓wC,wB,aY,aW,reduceEqDiff,reduceAdd,reduceSub,reduceIte,reduceCtorEq,Nat.reduceBEq,reduceLT,bU]
  repeat' (first|(simp only [hk1,hk2,hk3,hk4,hk5,Off.s_noOwn,Off.s_isV,Off.s_size,Off.w,cG,bB,bE,hf0,hf1,hd,↓b9,aV,cC,Int.toNat_natCast,Option.map_some,a7,hi0,hgn,hgs,bJ,eY,dR,dO,hset,↓wA,↓wC,wB,aY,aW,reduceEqDiff,reduceAdd,reduceSub,reduceIte,reduceCtorEq,Nat.reduceBEq,reduceLT,bU])|(refine cT ?_)|(with_reducible refine And.intro ?_ ?_)|(refine aZ hO (by simp [cA,cW,Off.s_unown]) rfl ?_)|(refine aZ hF (by simp [cA,cW,Off.s_unown]) rfl ?_)|(with_reducible refine bA ?_ ?_; focus (simp only [cV]; omega))|(refine aZ (hP) rfl rfl ?_)|(refine a6 (hP) rfl rfl ?_)|((first|apply aO|apply aQ|apply aK)<;>intro h<;>try simp only [h]))
  refine bR (jQ 4 6 5 none [1] rfl rfl rfl rfl (by decide) rfl) ?_
  simp only [cX,↓wA,↓wC,wB,aY,aW,reduceEqDiff,reduceAdd,reduceSub,reduceIte,reduceCtorEq,Nat.reduceBEq,reduceLT,bU]
  repeat' (first|(simp only [hk1,hk2,hk3,hk4,hk5,Off.s_noOwn,Off.s_isV,Off.s_size,Off.w,cG,bB,bE,hf0,hf1,hd,↓b9,aV,cC,Int.toNat_natCast,Option.map_some,a7,↓wA,↓wC,wB,aY,aW,reduceEqDiff,reduceAdd,reduceSub,reduceIte,reduceCtorEq,Nat.reduceBEq,reduceLT,bU])|(refine cT ?_)|(with_reducible refine And.intro ?_ ?_)|(refine aZ hO (by simp [cA,cW,Off.s_unown]) rfl ?_)|(refine aZ hF (by simp [cA,cW,Off.s_unown]) rfl ?_)|(with_reducible refine bA ?_ ?_; focus (simp only [cV]; omega))|(refine aZ hG (congrArg (fun d:D=>some [d]) hu) rfl ?_)|(refine a6 hG (congrArg (fun d:D=>some [d]) hu) rfl ?_)|((first|apply aO|apply aQ|apply aK)<;>intro h<;>try simp only [h]))
  all_goals exact pT hM rfl rfl
theorem aHt (o:Off) (id a v:Int) (ho:cM o=true) (hs:kY o 5 id a v=true):Fn prog 42 [o.s,lG 5 id a v] (MkR o 5 id a v):=by
 have hk1:decide ((5:Int)=1)=false:=rfl
 have hk2:decide ((5:Int)=2)=false:=rfl
 have hk3:decide ((5:Int)=3)=false:=rfl
 have hk4:decide ((5:Int)=4)=false:=rfl
 have hk5:decide ((5:Int)=5)=true:=rfl
 have hp:=dG ho
 have ho0:=jA ho
 have hO:=jV o ho0
 have hF:=jN o id ho0
 have hv:1<=v:=by simp [kY] at hs; exact hs.2
 obtain ⟨i,x,hi,hr⟩:=wR (o:=o) (id:=id) (by simp [kY] at hs; exact decide_eq_true hs.1.1)
 have hxc:=dX (hp.2.2.2.2.2.2.2.2.2 x (List.mem_of_getElem? hr))
 have hi0:(0:Int)<=(i:Int):=by omega
 rw [hi] at hF
 have hM0:gA o 5 id a v=if v > 20000 - x.d then none else some { o with cs:=o.cs.set i { x with d:=x.d + v } }:=by
  unfold gA
  rw [if_neg (by decide),if_neg (by decide),if_neg (by decide),hi,Int.toNat_natCast,hr]
  simp
 have hgn:(dl Cs.s o.cs).nth i=some (x.p (.sl false 1 (dl iD x.h))):=by rw [bW,hr]; rfl
 have hgs:∀ (y:D),((dl Cs.s o.cs).setN i y).nth i=some y:=fun y=>by rw [m9,if_pos rfl,hgn]; rfl
 have hfx:∀ K:SV->Prop,bY 2 2 (.d (.ptr x.s)) K=K (.d (.ptr (.int .i64 x.d))):=fun K=>rI
 have hfx':∀ K:SV->Prop,bY 2 2 (.d (.ptr (x.p (.sl false 1 (dl iD x.h))))) K=K (.d (.ptr (.int .i64 x.d))):=fun K=>rI
 cases hd:decide (20000 - x.d < v) with
 | true =>
  have hM:gA o 5 id a v=none:=by rw [hM0,if_pos (of_decide_eq_true hd)]
  refine fK (ps:=[[1,0],[1,0]]) (fn:=f42) (by exact func42) c42 r42 (n:=118) (by rfl) (rv:=[.cell 4 27,.tmp 5]) (by rfl) (by simp) ?_
  unfold m42
  try simp only [wQ]
  simp only [dP,eR]
  simp only [lG]
  repeat' (first|(simp only [Off.s_noOwn,Off.s_isV,aV,↓wA,↓wC,wB,aY,aW,reduceEqDiff,reduceAdd,reduceSub,reduceIte,reduceCtorEq,Nat.reduceBEq,reduceLT,bU])|((first|apply aO|apply aQ|apply aK)<;>intro h<;>try simp only [h]))
  refine bR (gG 0 rfl) ?_
  simp only [aY,aW,Off.s_unown,↓wA,↓wC,wB,aY,aW,reduceEqDiff,reduceAdd,reduceSub,reduceIte,reduceCtorEq,Nat.reduceBEq,reduceLT,bU]
  refine bR (gG 1 rfl) ?_
  simp only [aY,aW,D.unown,↓wA,↓wC,wB,aY,aW,reduceEqDiff,reduceAdd,reduceSub,reduceIte,reduceCtorEq,Nat.reduceBEq,reduceLT,bU]
  have hf0:∀ K:SV->Prop,bY 0 0 (.d (.ptr o.s)) K=K (.d (.ptr (.int .i64 o.day))):=fun K=>by simp [Off.s,cG,bY,D.pre,D.nth,D.size]
  have hf1:∀ K:SV->Prop,bY 1 1 (.d (.ptr o.s)) K=K (.d (.ptr (.sl false 4 (dl Cs.s o.cs)))):=fun K=>by simp [Off.s,cG,bY,D.pre,D.nth,D.size]
  repeat' (first|(simp only [hk1,hk2,hk3,hk4,hk5,Off.s_noOwn,Off.s_isV,Off.s_size,Off.w,cG,bB,bE,hf0,hf1,hd,↓b9,aV,cC,Int.toNat_natCast,Option.map_some,a7,bW,hi0,hr,hfx,bJ,↓wA,↓wC,wB,aY,aW,reduceEqDiff,reduceAdd,reduceSub,reduceIte,reduceCtorEq,Nat.reduceBEq,reduceLT,bU])|(refine cT ?_)|(with_reducible refine And.intro ?_ ?_)|(refine aZ hO (by simp [cA,cW,Off.s_unown]) rfl ?_)|(refine aZ hF (by simp [cA,cW,Off.s_unown]) rfl ?_)|(with_reducible refine bA ?_ ?_; focus (simp only [cV]; omega))|((first|apply aO|apply aQ|apply aK)<;>intro h<;>try simp only [h]))
  all_goals exact vI o hM rfl
 | false =>
  have hd':=of_decide_eq_false hd
  have hM:gA o 5 id a v=some { o with cs:=o.cs.set i { x with d:=x.d + v } }:=by rw [hM0,if_neg (of_decide_eq_false hd)]
  have hG:=eW _ (o4 ho hM)
  have hset:(dl Cs.s o.cs).setN i (Cs.p { x with d:=x.d + v } (.sl false 1 (dl iD x.h)))=dl Cs.s (o.cs.set i { x with d:=x.d + v }):=by
   have e:Cs.p { x with d:=x.d + v } (.sl false 1 (dl iD x.h))=Cs.s { x with d:=x.d + v }:=rfl
   rw [e,i8]
  have hu:(D.st (.cons (.int .i64 o.day) (.cons (.sl true 4 (dl Cs.s (o.cs.set i { x with d:=x.d + v }))) (.cons (.int .i64 o.kept) (.cons (.int .i64 o.moved) (.cons (.sl true 1 (dl D.str o.led)) .nil)))))).unown=Off.s { o with cs:=o.cs.set i { x with d:=x.d + v } }:=Off.w_unown { o with cs:=o.cs.set i { x with d:=x.d + v } }
  refine fK (ps:=[[1,1,1,0,1,0,1,1,1,1,1,1,1,1,1,0,1],[1,1,1,1,0],[1,0],[1,0]]) (fn:=f42) (by exact func42) c42 r42 (n:=118) (by rfl) (rv:=[.cell 4 27,.tmp 5]) (by rfl) (by simp) ?_
  unfold m42
  try simp only [wQ]
  simp only [dP,eR]
  simp only [lG]
  repeat' (first|(simp only [Off.s_noOwn,Off.s_isV,aV,↓wA,↓wC,wB,aY,aW,reduceEqDiff,reduceAdd,reduceSub,reduceIte,reduceCtorEq,Nat.reduceBEq,reduceLT,bU])|((first|apply aO|apply aQ|apply aK)<;>intro h<;>try simp only [h]))
  refine bR (gG 0 rfl) ?_
  simp only [aY,aW,Off.s_unown,↓wA,↓wC,wB,aY,aW,reduceEqDiff,reduceAdd,reduceSub,reduceIte,reduceCtorEq,Nat.reduceBEq,reduceLT,bU]
  refine bR (gG 1 rfl) ?_
  simp only [aY,aW,D.unown,↓wA,↓wC,wB,aY,aW,reduceEqDiff,reduceAdd,reduceSub,reduceIte,reduceCtorEq,Nat.reduceBEq,reduceLT,bU]
  have hf0:∀ K:SV->Prop,bY 0 0 (.d (.ptr o.s)) K=K (.d (.ptr (.int .i64 o.day))):=fun K=>by simp [Off.s,cG,bY,D.pre,D.nth,D.size]
  have hf1:∀ K:SV->Prop,bY 1 1 (.d (.ptr o.s)) K=K (.d (.ptr (.sl false 4 (dl Cs.s o.cs)))):=fun K=>by simp [Off.s,cG,bY,D.pre,D.nth,D.size]
  repeat' (first|(simp only [hk1,hk2,hk3,hk4,hk5,Off.s_noOwn,Off.s_isV,Off.s_size,Off.w,cG,bB,bE,hf0,hf1,hd,↓b9,aV,cC,Int.toNat_natCast,Option.map_some,a7,bW,hi0,hr,hfx,bJ,↓wA,↓wC,wB,aY,aW,reduceEqDiff,reduceAdd,reduceSub,reduceIte,reduceCtorEq,Nat.reduceBEq,reduceLT,bU])|(refine cT ?_)|(with_reducible refine And.intro ?_ ?_)|(refine aZ hO (by simp [cA,cW,Off.s_unown]) rfl ?_)|(refine aZ hF (by simp [cA,cW,Off.s_unown]) rfl ?_)|(with_reducible refine bA ?_ ?_; focus (simp only [cV]; omega))|((first|apply aO|apply aQ|apply aK)<;>intro h<;>try simp only [h]))
  refine dQ _ (eA 4 none [1] (es:=4) (xs:=dl Cs.s o.cs) rfl rfl) fun v1=>?_
  simp only [cX,↓wA,↓wC,wB,aY,aW,reduceEqDiff,reduceAdd,reduceSub,reduceIte,reduceCtorEq,Nat.reduceBEq,reduceLT,bU]
  repeat' (first|(simp only [hk1,hk2,hk3,hk4,hk5,Off.s_noOwn,Off.s_isV,Off.s_size,Off.w,cG,bB,bE,hf0,hf1,hd,↓b9,aV,cC,Int.toNat_natCast,Option.map_some,a7,hi0,hr,hfx,hfx',hgn,hgs,bJ,kK,kJ,kG,hset,↓wA,↓wC,wB,aY,aW,reduceEqDiff,reduceAdd,reduceSub,reduceIte,reduceCtorEq,Nat.reduceBEq,reduceLT,bU])|(refine cT ?_)|(with_reducible refine And.intro ?_ ?_)|(refine aZ hO (by simp [cA,cW,Off.s_unown]) rfl ?_)|(refine aZ hF (by simp [cA,cW,Off.s_unown]) rfl ?_)|(with_reducible refine bA ?_ ?_; focus (simp only [cV]; omega))|((first|apply aO|apply aQ|apply aK)<;>intro h<;>try simp only [h]))
  refine bR (jQ 4 6 5 none [1] rfl rfl rfl rfl (by decide) rfl) ?_
  simp only [cX,↓wA,↓wC,wB,aY,aW,reduceEqDiff,reduceAdd,reduceSub,reduceIte,reduceCtorEq,Nat.reduceBEq,reduceLT,bU]
  repeat' (first|(simp only [hk1,hk2,hk3,hk4,hk5,Off.s_noOwn,Off.s_isV,Off.s_size,Off.w,cG,bB,bE,hf0,hf1,hd,↓b9,aV,cC,Int.toNat_natCast,Option.map_some,a7,↓wA,↓wC,wB,aY,aW,reduceEqDiff,reduceAdd,reduceSub,reduceIte,reduceCtorEq,Nat.reduceBEq,reduceLT,bU])|(refine cT ?_)|(with_reducible refine And.intro ?_ ?_)|(refine aZ hO (by simp [cA,cW,Off.s_unown]) rfl ?_)|(refine aZ hF (by simp [cA,cW,Off.s_unown]) rfl ?_)|(with_reducible refine bA ?_ ?_; focus (simp only [cV]; omega))|(refine aZ hG (congrArg (fun d:D=>some [d]) hu) rfl ?_)|(refine a6 hG (congrArg (fun d:D=>some [d]) hu) rfl ?_)|((first|apply aO|apply aQ|apply aK)<;>intro h<;>try simp only [h]))
  all_goals exact pT hM rfl rfl
theorem aE3 (o:Off) (k id a v:Int) (ho:cM o=true) (hs:kY o k id a v=true):Fn prog 42 [o.s,lG k id a v] (MkR o k id a v):=by
 by_cases h1:k=1
 ·subst h1; exact aJb o id a v ho hs
 by_cases h2:k=2
 ·subst h2; exact aIu o id a v ho hs
 by_cases h3:k=3
 ·subst h3; exact aHr o id a v ho hs
 by_cases h4:k=4
 ·subst h4; exact aI5 o id a v ho hs
 by_cases h5:k=5
 ·subst h5; exact aHt o id a v ho hs
 have h6:k=6:=by
  unfold kY at hs
  rw [if_neg h1,if_neg h2,if_neg h3,if_neg h4,if_neg h5] at hs
  simp only [Bool.and_eq_true,decide_eq_true_eq] at hs
  exact hs.1.1.1
 subst h6; exact aIr o id a v ho hs
end Go.Pe.Tryz
set_option maxRecDepth 100000
set_option maxHeartbeats 4000000
set_option linter.all false
namespace Go.Pe.Tryz
open Nat (reduceEqDiff reduceAdd reduceSub reduceLT)
open Go.Proofs.Tryz
def nI (o:Off) (k id a v:Int):Off:=(gW o k id a v).getD aEk
def lF (o:Off) (k id a v:Int):Bool:=(gW o k id a v).isSome
theorem aB8 (o:Off) (k id a v:Int) (ho:o.ok0):Fn prog 7 [o.s,lG k id a v] (fun rs=>rs=[(nI o k id a v).o,.bool (lF o k id a v)]):=by
 have h:=aDr o k id a v ho
 unfold nI lF
 cases hq:gW o k id a v with
 | none=>rw [hq] at h; exact h
 | some q=>rw [hq] at h; exact h
theorem uL (o:Off) (k id a v:Int) (ho:o.ok0):Fn prog 8 [o.s,lG k id a v] (fun rs=>rs=[(nI o k id a v).w,.bool (lF o k id a v)]):=by
 have hG:=eW o ho
 have hS:=aEf o k id a v ho
 have hE:=aHL o k id a v
 cases hv:cM o with
 | false =>
  have hR:gW o k id a v=none:=by rw [<- hE]; unfold aCY; rw [hv]; rfl
  rw [hv] at hG
  have hX:nI o k id a v=aEk:=by unfold nI; rw [hR]; rfl
  have hY:lF o k id a v=false:=by unfold lF; rw [hR]; rfl
  rw [hX,hY]
  refine bV (fn:=f8) (by exact func8) c8 r8 (n:=28) (by rfl) (rv:=[.cell 4 27,.tmp 5]) (by rfl) (by simp) ?_
  unfold m8
  try simp only [wQ]
  simp only [lG]
  repeat' (first|(simp only [Off.s_noOwn,Off.s_isV,Off.s_size,↓b9,aV,↓wA,↓wC,wB,aY,aW,reduceEqDiff,reduceAdd,reduceSub,reduceIte,reduceCtorEq,Nat.reduceBEq,reduceLT,bU])|(refine aZ hG (by simp [cA,cW,Off.s_unown]) rfl ?_)|((first|apply aO|apply aQ|apply aK)<;>intro h<;>try simp only [h]))
  all_goals rfl
 | true =>
  rw [hv] at hG
  cases hb:kY o k id a v with
  | false =>
   have hR:gW o k id a v=none:=by rw [<- hE]; unfold aCY; rw [hv,hb]; rfl
   rw [hb] at hS
   have hX:nI o k id a v=aEk:=by unfold nI; rw [hR]; rfl
   have hY:lF o k id a v=false:=by unfold lF; rw [hR]; rfl
   rw [hX,hY]
   refine bV (fn:=f8) (by exact func8) c8 r8 (n:=28) (by rfl) (rv:=[.cell 4 27,.tmp 5]) (by rfl) (by simp) ?_
   unfold m8
   try simp only [wQ]
   simp only [lG] at hS ⊢
   repeat' (first|(simp only [Off.s_noOwn,Off.s_isV,Off.s_size,↓b9,aV,↓wA,↓wC,wB,aY,aW,reduceEqDiff,reduceAdd,reduceSub,reduceIte,reduceCtorEq,Nat.reduceBEq,reduceLT,bU])|(refine aZ hG (by simp [cA,cW,Off.s_unown]) rfl ?_)|(refine aZ hS (by simp [cA,cW,Off.s_unown]) rfl ?_)|((first|apply aO|apply aQ|apply aK)<;>intro h<;>try simp only [h]))
   all_goals rfl
  | true =>
   have hR:gW o k id a v=sO o k id a v:=by rw [<- hE]; unfold aCY; rw [hv,hb]; rfl
   rw [hb] at hS
   have hM:=aE3 o k id a v hv hb
   refine bV (fn:=f8) (by exact func8) c8 r8 (n:=28) (by rfl) (rv:=[.cell 4 27,.tmp 5]) (by rfl) (by simp) ?_
   unfold m8
   try simp only [wQ]
   simp only [lG] at hS hM ⊢
   repeat' (first|(simp only [Off.s_noOwn,Off.s_isV,Off.s_size,↓b9,aV,↓wA,↓wC,wB,aY,aW,reduceEqDiff,reduceAdd,reduceSub,reduceIte,reduceCtorEq,Nat.reduceBEq,reduceLT,bU])|(refine aZ hG (by simp [cA,cW,Off.s_unown]) rfl ?_)|(refine aZ hS (by simp [cA,cW,Off.s_unown]) rfl ?_)|((first|apply aO|apply aQ|apply aK)<;>intro h<;>try simp only [h]))
   refine nH hM (by simp [cA,cW,Off.s_unown]) fun rs h=>?_
   obtain ⟨q,rfl,hq⟩:=h
   have hwV:q.w.isV=true:=rfl
   have hwS:q.w.size=5:=rfl
   refine ⟨.inl rfl,?_⟩
   unfold nI lF
   rw [hR]
   cases hm:sO o k id a v with
   | none =>
    repeat' (first|(simp only [Off.w_noOwn,hwV,hwS,aV,Option.isSome_none,↓wA,↓wC,wB,aY,aW,reduceEqDiff,reduceAdd,reduceSub,reduceIte,reduceCtorEq,Nat.reduceBEq,reduceLT,bU])|((first|apply aO|apply aQ|apply aK)<;>intro h<;>try simp only [h]))
    all_goals rfl
   | some q' =>
    obtain rfl:=hq q' hm
    repeat' (first|(simp only [Off.w_noOwn,hwV,hwS,aV,Option.isSome_some,↓wA,↓wC,wB,aY,aW,reduceEqDiff,reduceAdd,reduceSub,reduceIte,reduceCtorEq,Nat.reduceBEq,reduceLT,bU])|((first|apply aO|apply aQ|apply aK)<;>intro h<;>try simp only [h]))
    all_goals exact bK rfl (oA _ rfl (bK rfl (bK rfl (bK rfl rfl))))
end Go.Pe.Tryz
set_option maxRecDepth 100000
set_option maxHeartbeats 4000000
set_option linter.all false
namespace Go.Pe.Tryz
open Nat (reduceEqDiff reduceAdd reduceSub reduceLT)
open Go.Proofs.Tryz
end Go.Pe.Tryz
set_option maxRecDepth 100000
set_option maxHeartbeats 4000000
set_option linter.all false
namespace Go.Pe.Tryz
open Nat (reduceEqDiff reduceAdd reduceSub reduceLT)
open Go.Proofs.Tryz
end Go.Pe.Tryz
set_option maxRecDepth 100000
set_option maxHeartbeats 4000000
set_option linter.all false
namespace Go.Pe.Tryz
open Nat (reduceEqDiff reduceAdd reduceSub reduceLT)
open Go.Proofs.Tryz
theorem Stp.d_noOwn (s:Stp):s.d.noOwn=true:=rfl
theorem Stp.d_isV (s:Stp):s.d.isV=true:=rfl
theorem Stp.d_size (s:Stp):s.d.size=4:=rfl
theorem Stp.d_unown (s:Stp):s.d.unown=s.d:=rfl
theorem jY {o:List Ob} {K:SV->Prop} {s:Stp}:dY o (some 4) s.d K=K (.d s.d):=aM8
def zS:D:=lG 0 0 0 0
def os:Option Stp->D
 | some x=>x.d
 | none=>zS
end Go.Pe.Tryz
set_option maxRecDepth 100000
set_option maxHeartbeats 4000000
set_option linter.all false
namespace Go.Pe.Tryz
open Nat (reduceEqDiff reduceAdd reduceSub reduceLT)
open Go.Proofs.Tryz
end Go.Pe.Tryz
set_option maxRecDepth 100000
set_option maxHeartbeats 4000000
set_option linter.all false
namespace Go.Pe.Tryz
open Nat (reduceEqDiff reduceAdd reduceSub reduceLT)
open Go.Proofs.Tryz
def l8 (cv:Value) (k:Nat) (seed:Int):D:=.st (.cons (.lnk 2 cv) (.cons (.int .i64 k) (.cons (.int .u64 seed) .nil)))
def cL (code:List UInt8) (cv:Value):List (Value×Nat×D):=[(cv,1,cQ code)]
theorem cF (code:List UInt8) (cv:Value) {o:List Ob} (h1:o[2]?=some (.tag 1 cv)) (h2:o[1]?=some (.val (.sl false 1 (cQ code)))):nZ o (cL code cv) :=
 ⟨⟨2,1,false,cQ code,h1,h2,(wX code).symm⟩,trivial⟩
theorem yX (code:List UInt8) (cv:Value) (k:Nat) (seed:Int) (hc:code.length<=1048576) (hk:k<=1000000000000):yW prog 88 (l8 cv k seed) (cL code cv) []
  (fun x' rs=>∃ (n:Int) (seed':Int),x'=l8 cv (k + 1) seed'/\rs=[.int .i64 n]/\0<=n/\n < 256):=by
 have h0:(0:Int)<=(k:Int):=by omega
 refine oU (fn:=f88) (by exact func88) c88 r88 (n:=62) (by rfl) (rv:=[.tmp 2]) (by rfl) (by decide) (by simp) ?_
 unfold m88
 try simp only [wQ]
 simp only [l8,cL,k0,oF,sH,List.map_cons,List.map_nil,List.cons_append,List.nil_append]
 by_cases hlt:k < code.length
 ·obtain ⟨b,hb⟩:=cK hlt
  have hbl:(b.toNat:Int) < 256:=by have:=b.toNat_lt; omega
  have hd:decide ((k:Int) < (code.length:Int))=true:=decide_eq_true (by omega)
  have hd2:decide ((k:Int) + 1<=(code.length:Int))=true:=decide_eq_true (by omega)
  repeat' (first|(simp only [iQ,fS,vV,hd,hd2,h0,hb,Int.toNat_natCast,Option.map_some,aV,↓wA,↓wC,wB,aY,aW,reduceEqDiff,reduceAdd,reduceSub,reduceIte,reduceCtorEq,Nat.reduceBEq,reduceLT])|(refine bA (by simp only [cV]; omega) ?_)|(refine uE ?_)|((first|apply aO|apply aQ|apply aK)<;>intro h<;>try simp only [h]))
  exact ⟨_,_,rfl,rfl,by omega,hbl⟩
 ·have hd:decide ((k:Int) < (code.length:Int))=false:=decide_eq_false (by omega)
  have hd2:decide ((k:Int) + 1<=(code.length:Int))=false:=decide_eq_false (by omega)
  repeat' (first|(simp only [iQ,fS,hd,hd2,h0,aV,↓wA,↓wC,wB,aY,aW,reduceEqDiff,reduceAdd,reduceSub,reduceIte,reduceCtorEq,Nat.reduceBEq,reduceLT])|(with_reducible refine bA ?_ ?_; focus (simp only [cV]; omega))|(with_reducible refine bK ?_ ?_; focus omega)|(with_reducible refine uE (k:=.u64) ?_)|((first|apply aO|apply aQ|apply aK)<;>intro h<;>try simp only [h]))
  generalize hX:(Int.fdiv _ _:Int)=X
  have h255:=aIQ X
  refine bA (by simp only [cV]; omega) ?_
  simp only [↓wA,↓wC,wB,aY,aW,reduceEqDiff,reduceAdd,reduceSub,reduceIte,reduceCtorEq,Nat.reduceBEq,reduceLT]
  exact ⟨_,_,rfl,rfl,h255.1,by omega⟩
theorem kC (code:List UInt8) (cv:Value) (k:Nat) (seed n:Int) (hc:code.length<=1048576) (hk:k<=999999999990):yW prog 50 (l8 cv k seed) (cL code cv) [.int .i64 n]
  (fun x' rs=>∃ (m:Int) (k':Nat) (seed':Int),x'=l8 cv k' seed'/\rs=[.int .i64 m]/\k<=k'/\k'<=k + 2/\0<=m/\(m < n\/m=0)):=by
 cases h1:decide (n<=1) with
 | true =>
  refine oU (fn:=f50) (by exact func50) c50 r50 (n:=20) (by rfl) (rv:=[.tmp 4]) (by rfl) (by decide) (by simp) ?_
  unfold m50
  try simp only [wQ]
  simp only [cL,k0,oF,sH,List.map_cons,List.map_nil,List.cons_append,List.nil_append]
  repeat' (first|(simp only [h1,↓wA,↓wC,wB,aY,aW,reduceEqDiff,reduceAdd,reduceSub,reduceIte,reduceCtorEq,Nat.reduceBEq,reduceLT])|((first|apply aO|apply aQ|apply aK)<;>intro h<;>try simp only [h]))
  exact ⟨0,k,seed,rfl,rfl,by omega,by omega,by omega,.inr rfl⟩
 | false =>
  have h1':=of_decide_eq_false h1
  have hn0:n≠0:=by omega
  cases h2:decide (200 < n) with
  | false =>
   refine oU (fn:=f50) (by exact func50) c50 r50 (n:=20) (by rfl) (rv:=[.tmp 4]) (by rfl) (by decide) (by simp) ?_
   unfold m50
   try simp only [wQ]
   simp only [cL,k0,oF,sH,List.map_cons,List.map_nil,List.cons_append,List.nil_append]
   repeat' (first|(simp only [h1,h2,↓wA,↓wC,wB,aY,aW,reduceEqDiff,reduceAdd,reduceSub,reduceIte,reduceCtorEq,Nat.reduceBEq,reduceLT])|((first|apply aO|apply aQ|apply aK)<;>intro h<;>try simp only [h]))
   refine cE (yX code cv k seed hc (by omega)) rfl rfl rfl (cF code cv rfl rfl) ?_
   rintro _ _ ⟨a,s1,rfl,rfl,ha0,ha1⟩
   refine ⟨⟨rfl,rfl⟩,?_⟩
   have t0:0<=a.tmod n:=Int.tmod_nonneg _ ha0
   have t1:a.tmod n < n:=Int.tmod_lt_of_pos _ (by omega)
   repeat' (first|(simp only [h1,h2,↓wA,↓wC,wB,aY,aW,reduceEqDiff,reduceAdd,reduceSub,reduceIte,reduceCtorEq,Nat.reduceBEq,reduceLT])|(with_reducible refine bK hn0 ?_)|(with_reducible refine bA ?_ ?_; focus (simp only [cV]; omega))|((first|apply aO|apply aQ|apply aK)<;>intro h<;>try simp only [h]))
   exact ⟨_,k + 1,s1,rfl,rfl,by omega,by omega,t0,.inl t1⟩
  | true =>
   refine oU (fn:=f50) (by exact func50) c50 r50 (n:=20) (by rfl) (rv:=[.tmp 4]) (by rfl) (by decide) (by simp) ?_
   unfold m50
   try simp only [wQ]
   simp only [cL,k0,oF,sH,List.map_cons,List.map_nil,List.cons_append,List.nil_append]
   repeat' (first|(simp only [h1,h2,↓wA,↓wC,wB,aY,aW,reduceEqDiff,reduceAdd,reduceSub,reduceIte,reduceCtorEq,Nat.reduceBEq,reduceLT])|((first|apply aO|apply aQ|apply aK)<;>intro h<;>try simp only [h]))
   refine cE (yX code cv k seed hc (by omega)) rfl rfl rfl (cF code cv rfl rfl) ?_
   rintro _ _ ⟨a,s1,rfl,rfl,ha0,ha1⟩
   refine ⟨⟨rfl,rfl⟩,?_⟩
   repeat' (first|(simp only [h1,h2,↓wA,↓wC,wB,aY,aW,reduceEqDiff,reduceAdd,reduceSub,reduceIte,reduceCtorEq,Nat.reduceBEq,reduceLT])|(with_reducible refine bA ?_ ?_; focus (simp only [cV]; omega))|((first|apply aO|apply aQ|apply aK)<;>intro h<;>try simp only [h]))
   refine cE (yX code cv (k + 1) s1 hc (by omega)) rfl rfl rfl (cF code cv rfl rfl) ?_
   rintro _ _ ⟨b,s2,rfl,rfl,hb0,hb1⟩
   refine ⟨⟨rfl,rfl⟩,?_⟩
   have t0:0<=(a * 256 + b).tmod n:=Int.tmod_nonneg _ (by omega)
   have t1:(a * 256 + b).tmod n < n:=Int.tmod_lt_of_pos _ (by omega)
   repeat' (first|(simp only [h1,h2,↓wA,↓wC,wB,aY,aW,reduceEqDiff,reduceAdd,reduceSub,reduceIte,reduceCtorEq,Nat.reduceBEq,reduceLT])|(with_reducible refine bK hn0 ?_)|(with_reducible refine bA ?_ ?_; focus (simp only [cV]; omega))|((first|apply aO|apply aQ|apply aK)<;>intro h<;>try simp only [h]))
   exact ⟨_,k + 1 + 1,s2,rfl,rfl,by omega,by omega,t0,.inl t1⟩
theorem aFQ (code:List UInt8) (cv:Value) (k:Nat) (seed n:Int) (hc:code.length<=1048576) (hk:k<=999999999990):yW prog 51 (l8 cv k seed) (cL code cv) [.int .i64 n]
  (fun x' rs=>∃ (b:Bool) (k':Nat) (seed':Int),x'=l8 cv k' seed'/\rs=[.bool b]/\k<=k'/\k'<=k + 2):=by
 refine oU (fn:=f51) (by exact func51) c51 r51 (n:=9) (by rfl) (rv:=[.tmp 4]) (by rfl) (by decide) (by simp) ?_
 unfold m51
 try simp only [wQ]
 simp only [cL,k0,oF,sH,List.map_cons,List.map_nil,List.cons_append,List.nil_append]
 try simp only [↓wA,↓wC,wB,aY,aW,reduceEqDiff,reduceAdd,reduceSub,reduceIte,reduceCtorEq,Nat.reduceBEq,reduceLT]
 refine cE (kC code cv k seed n hc (by omega)) rfl rfl rfl (cF code cv rfl rfl) ?_
 rintro _ _ ⟨m,k1,s1,rfl,rfl,hk1,hk1',hm,hm'⟩
 refine ⟨⟨rfl,rfl⟩,?_⟩
 simp only [↓wA,↓wC,wB,aY,aW,reduceEqDiff,reduceAdd,reduceSub,reduceIte,reduceCtorEq,Nat.reduceBEq,reduceLT]
 exact ⟨_,k1,s1,rfl,rfl,hk1,hk1'⟩
theorem dM (code:List UInt8) (cv:Value) (k:Nat) (seed:Int) (v:List Int) (hc:code.length<=1048576) (hk:k<=999999999990) (hv:0 < v.length) (hl:v.length<=1048576):yW prog 56 (l8 cv k seed) (cL code cv) [.sl false 1 (dl iD v)]
  (fun x' rs=>∃ (m:Int) (k':Nat) (seed':Int),x'=l8 cv k' seed'/\rs=[.int .i64 m]/\k<=k'/\k'<=k + 2/\m∈v):=by
 refine oU (fn:=f56) (by exact func56) c56 r56 (n:=12) (by rfl) (rv:=[.tmp 4]) (by rfl) (by decide) (by simp) ?_
 unfold m56
 try simp only [wQ]
 simp only [cL,k0,oF,sH,List.map_cons,List.map_nil,List.cons_append,List.nil_append]
 try simp only [a7,↓wA,↓wC,wB,aY,aW,reduceEqDiff,reduceAdd,reduceSub,reduceIte,reduceCtorEq,Nat.reduceBEq,reduceLT]
 refine cE (kC code cv k seed v.length hc (by omega)) rfl rfl rfl (cF code cv rfl rfl) ?_
 rintro _ _ ⟨m,k1,s1,rfl,rfl,hk1,hk1',hm,hm'⟩
 refine ⟨⟨rfl,rfl⟩,?_⟩
 obtain ⟨y,hy⟩:=cK (show m.toNat < v.length by omega)
 repeat' (first|(simp only [a7,bW,hm,hy,Option.map_some,aV,e9,↓wA,↓wC,wB,aY,aW,reduceEqDiff,reduceAdd,reduceSub,reduceIte,reduceCtorEq,Nat.reduceBEq,reduceLT])|((first|apply aO|apply aQ|apply aK)<;>intro h<;>try simp only [h]))
 exact ⟨y,k1,s1,rfl,rfl,hk1,hk1',List.mem_of_getElem? hy⟩
end Go.Pe.Tryz
set_option maxRecDepth 100000
set_option maxHeartbeats 4000000
set_option linter.all false
namespace Go.Pe.Tryz
open Nat (reduceEqDiff reduceAdd reduceSub reduceLT)
open Go.Proofs.Tryz
structure Held (p:Prop):Prop where
 out:p
theorem aNZ {G:Prop} {P:PG} {m:MC} {α:Type} {K:Exit->St->Prop} (S:α->St) (C:α->Prop) (a:Held (∀ x,C x->dA P m (S x) K)->G) (b:∀ x,C x->dA P m (S x) K):G:=a ⟨b⟩
def sX (o:Off):Prop:=o.cs.length<=10/\(∀ x∈o.cs,0<=x.i/\x.i<=1000/\x.h.length<=10/\∀ n∈x.h,0<=n/\n<=1000)/\o.led.length<=20/\∀ s∈o.led,s.length<=1000
theorem uS {o:Off} (h:sX o):o.ok0:=⟨⟨by have:=h.1; omega,fun x hx=>by have:=(h.2.1 x hx).2.2.1; unfold Cs.ok0; omega⟩,by have:=h.2.2.1; omega,fun s hs=>by have:=h.2.2.2 s hs; omega⟩
theorem aCf {o:Off} (h:cM o=true):sX o:=by
 obtain ⟨_,_,h3,_,_,_,_,h8,h9,h10⟩:=dG h
 refine ⟨by omega,fun x hx=>?_,by omega,fun s hs=>by have:=h9 s hs; omega⟩
 have hc:=dX (h10 x hx)
 exact ⟨by omega,by omega,by omega,fun n hn=>by have:=hc.2.2.2.2.2.2.2.1 n hn; omega⟩
def aAJ (s:Stp):Prop:=(0<=s.k/\s.k<=7)/\(0<=s.i/\s.i<=1000)/\(0<=s.a/\s.a<=4)/\-1<=s.v/\s.v<=20001
def zT:D:=.st (.cons (.int .i64 0) (.cons (.int .i64 0) (.cons (.int .i64 0) (.cons (.int .i64 0) .nil))))
def osS (code:List UInt8) (cv:Value) (x:Nat×Int×Int×Int):St:=⟨[(0,.ptr 0 0 []),(4,.ptr 4 0 []),(5,.d (.int .i64 x.2.2.1)),(6,.d (.int .i64 x.2.2.2))],[.box (l8 cv x.1 x.2.1),.val (.sl false 1 (cQ code)),.tag 1 cv,.dead,.box zT]⟩
theorem lE {v:List Int} {m a b:Int} (h:m∈v) (hv:v.all (fun n=>decide (a<=n) && decide (n<=b))=true):a<=m/\m<=b:=by
 have:=List.all_eq_true.1 hv m h
 simpa using this
theorem zM (code:List UInt8) (cv:Value) (k:Nat) (seed:Int) (o:Off) (hc:code.length<=1048576) (hk:k<=999999999000) (ho:sX o):yW prog 36 (l8 cv k seed) (cL code cv) [o.s]
  (fun x' rs=>∃ (s:Stp) (k':Nat) (seed':Int),x'=l8 cv k' seed'/\rs=[s.d]/\k<=k'/\k'<=k + 40/\aAJ s):=by
 have hlen:=ho.1
 refine aCJ (ps:=[[1,1,1,0,0],[1,0]]) (fn:=f36) (by exact func36) c36 r36 (n:=102) (by rfl) (rv:=[.cell 4 29]) (by rfl) (by decide) (by simp) ?_
 unfold m36
 try simp only [wQ]
 simp only [dP,eR]
 simp only [cL,k0,oF,sH,List.map_cons,List.map_nil,List.cons_append,List.nil_append]
 repeat' (first|(simp only [Off.s_noOwn,Off.s_isV,aV,↓wA,↓wC,wB,aY,aW,reduceEqDiff,reduceAdd,reduceSub,reduceIte,reduceCtorEq,Nat.reduceBEq,reduceLT,gN])|((first|apply aO|apply aQ|apply aK)<;>intro h<;>try simp only [h]))
 refine bR (gG 3 rfl) ?_
 simp only [aY,aW,Off.s_unown,↓wA,↓wC,wB,aY,aW,reduceEqDiff,reduceAdd,reduceSub,reduceIte,reduceCtorEq,Nat.reduceBEq,reduceLT,gN]
 have hfa:∀ K:SV->Prop,bY 1 1 (.d (.ptr o.s)) K=K (.d (.ptr (.sl false 4 (dl Cs.s o.cs)))):=fun K=>by simp [Off.s,cG,bY,D.pre,D.nth,D.size]
 repeat' (first|(simp only [aV,↓wA,↓wC,wB,aY,aW,reduceEqDiff,reduceAdd,reduceSub,reduceIte,reduceCtorEq,Nat.reduceBEq,reduceLT,gN])|((first|apply aO|apply aQ|apply aK)<;>intro h<;>try simp only [h]))
 refine dW 5 ?_
 simp only [lA,jX,iZ,D.unown,↓wA,↓wC,wB,aY,aW,reduceEqDiff,reduceAdd,reduceSub,reduceIte,reduceCtorEq,Nat.reduceBEq,reduceLT,gN]
 refine cE (dM code cv k seed [1,12,500] hc (by omega) (by simp) (by simp)) rfl rfl rfl (cF code cv rfl rfl) ?_
 rintro _ _ ⟨m,k1,s1,rfl,rfl,hk1,hk1',hmm⟩
 refine ⟨⟨rfl,rfl⟩,?_⟩
 repeat' (first|(simp only [aV,↓wA,↓wC,wB,aY,aW,reduceEqDiff,reduceAdd,reduceSub,reduceIte,reduceCtorEq,Nat.reduceBEq,reduceLT,gN])|((first|apply aO|apply aQ|apply aK)<;>intro h<;>try simp only [h]))
 refine dW 6 ?_
 simp only [lA,jX,iZ,D.unown,↓wA,↓wC,wB,aY,aW,reduceEqDiff,reduceAdd,reduceSub,reduceIte,reduceCtorEq,Nat.reduceBEq,reduceLT,gN]
 refine cE (dM code cv k1 s1 [1,2,2,9] hc (by omega) (by simp) (by simp)) rfl rfl rfl (cF code cv rfl rfl) ?_
 rintro _ _ ⟨n,k2,s2,rfl,rfl,hk2,hk2',hmn⟩
 refine ⟨⟨rfl,rfl⟩,?_⟩
 have hm2:=lE (a:=0) (b:=1000) hmm (by decide)
 have hn2:=lE (a:=0) (b:=1000) hmn (by decide)
 apply aNZ (osS code cv) (fun x=>k<=x.1/\x.1<=k + 12/\(0<=x.2.2.1/\x.2.2.1<=1000)/\0<=x.2.2.2/\x.2.2.2<=1000)
 case a =>
  intro rest
  cases h0:decide ((0:Int) < (o.cs.length:Int)) with
  | false =>
   repeat' (first|(simp only [hfa,a7,h0,bB,aV,↓wA,↓wC,wB,aY,aW,reduceEqDiff,reduceAdd,reduceSub,reduceIte,reduceCtorEq,Nat.reduceBEq,reduceLT,gN])|((first|apply aO|apply aQ|apply aK)<;>intro h<;>try simp only [h]))
   refine bR (bF (s':=osS code cv (k2,s2,m,n)) _ rfl ⟨⟨rfl,rfl⟩,⟨rfl,rfl⟩,⟨rfl,rfl⟩,⟨rfl,rfl⟩,trivial⟩) ?_
   exact rest.out (k2,s2,m,n) ⟨by simp only; omega,by simp only; omega,hm2,hn2⟩
  | true =>
   have h0':=of_decide_eq_true h0
   repeat' (first|(simp only [hfa,a7,h0,bB,aV,↓wA,↓wC,wB,aY,aW,reduceEqDiff,reduceAdd,reduceSub,reduceIte,reduceCtorEq,Nat.reduceBEq,reduceLT,gN])|((first|apply aO|apply aQ|apply aK)<;>intro h<;>try simp only [h]))
   have hld:(0:Int)<=(o.cs.length:Int):=by omega
   refine aJt (fun s=>∃ (x:Cs) (k':Nat) (s':Int),x∈o.cs/\k2<=k'/\k'<=k2 + 2/\eN s ⟨[(0,.ptr 0 0 []),(4,.ptr 4 0 []),(6,.d (.int .i64 n)),(7,.ptr 7 0 [])],[.box (l8 cv k' s'),.val (.sl false 1 (cQ code)),.tag 1 cv,.dead,.box zT,.dead,.dead,.box x.s]⟩) ?_ ?_
   ·refine ⟨?_,?_⟩
    ·refine cE (kC code cv k2 s2 o.cs.length hc (by omega)) rfl rfl rfl (cF code cv rfl rfl) ?_
     rintro _ _ ⟨p,k3,s3,rfl,rfl,hk3,hk3',hp,hp'⟩
     refine ⟨⟨rfl,rfl⟩,?_⟩
     obtain ⟨x,hr⟩:=cK (show p.toNat < o.cs.length by omega)
     repeat' (first|(simp only [bW,hp,hr,Option.map_some,↓gH,Cs.s_isV,Cs.s_size,Cs.s_noOwn,aV,↓wA,↓wC,wB,aY,aW,reduceEqDiff,reduceAdd,reduceSub,reduceIte,reduceCtorEq,Nat.reduceBEq,reduceLT,gN])|((first|apply aO|apply aQ|apply aK)<;>intro h<;>try simp only [h]))
     exact ⟨x,k3,s3,List.mem_of_getElem? hr,hk3,hk3',(bF _ rfl ⟨⟨rfl,rfl⟩,⟨rfl,rfl⟩,⟨rfl,rfl⟩,⟨rfl,rfl⟩,trivial⟩)⟩
    ·refine cE (kC code cv k2 s2 o.cs.length hc (by omega)) rfl rfl rfl (cF code cv rfl rfl) ?_
     rintro _ _ ⟨p,k3,s3,rfl,rfl,hk3,hk3',hp,hp'⟩
     refine ⟨⟨rfl,rfl⟩,?_⟩
     obtain ⟨x,hr⟩:=cK (show p.toNat < o.cs.length by omega)
     repeat' (first|(simp only [bW,hp,hr,Option.map_some,↓gH,Cs.s_isV,Cs.s_size,Cs.s_noOwn,aV,↓wA,↓wC,wB,aY,aW,reduceEqDiff,reduceAdd,reduceSub,reduceIte,reduceCtorEq,Nat.reduceBEq,reduceLT,gN])|((first|apply aO|apply aQ|apply aK)<;>intro h<;>try simp only [h]))
     exact ⟨x,k3,s3,List.mem_of_getElem? hr,hk3,hk3',(bF _ rfl ⟨⟨rfl,rfl⟩,⟨rfl,rfl⟩,⟨rfl,rfl⟩,⟨rfl,rfl⟩,trivial⟩)⟩
   ·rintro s1 ⟨x,k3,s3,hx,hk3,hk3',hw⟩
    refine ⟨_,hw,?_⟩
    have hxb:=ho.2.1 x hx
    cases h1:decide ((0:Int) < (x.h.length:Int)) with
    | false =>
     repeat' (first|(simp only [a7,h1,eZ,eX,fB,fC,bJ,aV,↓wA,↓wC,wB,aY,aW,reduceEqDiff,reduceAdd,reduceSub,reduceIte,reduceCtorEq,Nat.reduceBEq,reduceLT,gN])|((first|apply aO|apply aQ|apply aK)<;>intro h<;>try simp only [h]))
     refine bR (bF (s':=osS code cv (k3,s3,x.i,n)) _ rfl ⟨⟨rfl,rfl⟩,⟨rfl,rfl⟩,⟨rfl,rfl⟩,⟨rfl,rfl⟩,trivial⟩) ?_
     exact rest.out (k3,s3,x.i,n) ⟨by simp only; omega,by simp only; omega,⟨hxb.1,hxb.2.1⟩,hn2⟩
    | true =>
     have h1':=of_decide_eq_true h1
     repeat' (first|(simp only [a7,h1,eZ,eX,fB,fC,bJ,aV,↓wA,↓wC,wB,aY,aW,reduceEqDiff,reduceAdd,reduceSub,reduceIte,reduceCtorEq,Nat.reduceBEq,reduceLT,gN])|((first|apply aO|apply aQ|apply aK)<;>intro h<;>try simp only [h]))
     refine cE (aFQ code cv k3 s3 2 hc (by omega)) rfl rfl rfl (cF code cv rfl rfl) ?_
     rintro _ _ ⟨b,k4,s4,rfl,rfl,hk4,hk4'⟩
     refine ⟨⟨rfl,rfl⟩,?_⟩
     cases b with
     | false =>
      repeat' (first|(simp only [aV,↓wA,↓wC,wB,aY,aW,reduceEqDiff,reduceAdd,reduceSub,reduceIte,reduceCtorEq,Nat.reduceBEq,reduceLT,gN])|((first|apply aO|apply aQ|apply aK)<;>intro h<;>try simp only [h]))
      refine bR (bF (s':=osS code cv (k4,s4,x.i,n)) _ rfl ⟨⟨rfl,rfl⟩,⟨rfl,rfl⟩,⟨rfl,rfl⟩,⟨rfl,rfl⟩,trivial⟩) ?_
      exact rest.out (k4,s4,x.i,n) ⟨by simp only; omega,by simp only; omega,⟨hxb.1,hxb.2.1⟩,hn2⟩
     | true =>
      repeat' (first|(simp only [a7,eZ,eX,fB,fC,bJ,aV,↓wA,↓wC,wB,aY,aW,reduceEqDiff,reduceAdd,reduceSub,reduceIte,reduceCtorEq,Nat.reduceBEq,reduceLT,gN])|(refine cT ?_)|((first|apply aO|apply aQ|apply aK)<;>intro h<;>try simp only [h]))
      refine cE (kC code cv k4 s4 x.h.length hc (by omega)) rfl rfl rfl (cF code cv rfl rfl) ?_
      rintro _ _ ⟨q,k5,s5,rfl,rfl,hk5,hk5',hq,hq'⟩
      refine ⟨⟨rfl,rfl⟩,?_⟩
      obtain ⟨y,hy⟩:=cK (show q.toNat < x.h.length by omega)
      have hyb:=hxb.2.2.2 y (List.mem_of_getElem? hy)
      repeat' (first|(simp only [bW,hq,hy,Option.map_some,e9,aV,↓wA,↓wC,wB,aY,aW,reduceEqDiff,reduceAdd,reduceSub,reduceIte,reduceCtorEq,Nat.reduceBEq,reduceLT,gN])|((first|apply aO|apply aQ|apply aK)<;>intro h<;>try simp only [h]))
      refine bR (bF (s':=osS code cv (k5,s5,x.i,y)) _ rfl ⟨⟨rfl,rfl⟩,⟨rfl,rfl⟩,⟨rfl,rfl⟩,⟨rfl,rfl⟩,trivial⟩) ?_
      exact rest.out (k5,s5,x.i,y) ⟨by simp only; omega,by simp only; omega,⟨hxb.1,hxb.2.1⟩,hyb⟩
 case b =>
  rintro ⟨k',s',id,hold⟩ ⟨b1,b2,hid,hho⟩
  simp only at b1 b2 hid hho
  simp only [osS]
  repeat' (first|(simp only [aV,↓wA,↓wC,wB,aY,aW,reduceEqDiff,reduceAdd,reduceSub,reduceIte,reduceCtorEq,Nat.reduceBEq,reduceLT,gN])|((first|apply aO|apply aQ|apply aK)<;>intro h<;>try simp only [h]))
  refine cE (aFQ code cv k' s' 40 hc (by omega)) rfl rfl rfl (cF code cv rfl rfl) ?_
  rintro _ _ ⟨b,k1,s1,rfl,rfl,hk1,hk1'⟩
  refine ⟨⟨rfl,rfl⟩,?_⟩
  cases b with
  | true =>
   repeat' (first|(simp only [aV,↓wA,↓wC,wB,aY,aW,reduceEqDiff,reduceAdd,reduceSub,reduceIte,reduceCtorEq,Nat.reduceBEq,reduceLT,gN])|((first|apply aO|apply aQ|apply aK)<;>intro h<;>try simp only [h]))
   refine dW 5 ?_
   simp only [lA,jX,iZ,D.unown,↓wA,↓wC,wB,aY,aW,reduceEqDiff,reduceAdd,reduceSub,reduceIte,reduceCtorEq,Nat.reduceBEq,reduceLT,gN]
   refine cE (dM code cv k1 s1 [0,7,6] hc (by omega) (by simp) (by simp)) rfl rfl rfl (cF code cv rfl rfl) ?_
   rintro _ _ ⟨a,k2,s2,rfl,rfl,hk2,hk2',hma⟩
   refine ⟨⟨rfl,rfl⟩,?_⟩
   repeat' (first|(simp only [aV,↓wA,↓wC,wB,aY,aW,reduceEqDiff,reduceAdd,reduceSub,reduceIte,reduceCtorEq,Nat.reduceBEq,reduceLT,gN])|((first|apply aO|apply aQ|apply aK)<;>intro h<;>try simp only [h]))
   refine dW 6 ?_
   simp only [lA,jX,iZ,D.unown,↓wA,↓wC,wB,aY,aW,reduceEqDiff,reduceAdd,reduceSub,reduceIte,reduceCtorEq,Nat.reduceBEq,reduceLT,gN]
   refine cE (dM code cv k2 s2 [0,id,1000] hc (by omega) (by simp) (by simp)) rfl rfl rfl (cF code cv rfl rfl) ?_
   rintro _ _ ⟨i,k3,s3,rfl,rfl,hk3,hk3',hmi⟩
   refine ⟨⟨rfl,rfl⟩,?_⟩
   repeat' (first|(simp only [aV,↓wA,↓wC,wB,aY,aW,reduceEqDiff,reduceAdd,reduceSub,reduceIte,reduceCtorEq,Nat.reduceBEq,reduceLT,gN])|((first|apply aO|apply aQ|apply aK)<;>intro h<;>try simp only [h]))
   refine dW 7 ?_
   simp only [lA,jX,iZ,D.unown,↓wA,↓wC,wB,aY,aW,reduceEqDiff,reduceAdd,reduceSub,reduceIte,reduceCtorEq,Nat.reduceBEq,reduceLT,gN]
   refine cE (dM code cv k3 s3 [0,1] hc (by omega) (by simp) (by simp)) rfl rfl rfl (cF code cv rfl rfl) ?_
   rintro _ _ ⟨c,k4,s4,rfl,rfl,hk4,hk4',hmc⟩
   refine ⟨⟨rfl,rfl⟩,?_⟩
   repeat' (first|(simp only [aV,↓wA,↓wC,wB,aY,aW,reduceEqDiff,reduceAdd,reduceSub,reduceIte,reduceCtorEq,Nat.reduceBEq,reduceLT,gN])|((first|apply aO|apply aQ|apply aK)<;>intro h<;>try simp only [h]))
   refine dW 8 ?_
   simp only [lA,jX,iZ,D.unown,↓wA,↓wC,wB,aY,aW,reduceEqDiff,reduceAdd,reduceSub,reduceIte,reduceCtorEq,Nat.reduceBEq,reduceLT,gN]
   refine cE (dM code cv k4 s4 [0,1,-1] hc (by omega) (by simp) (by simp)) rfl rfl rfl (cF code cv rfl rfl) ?_
   rintro _ _ ⟨v,k5,s5,rfl,rfl,hk5,hk5',hmv⟩
   refine ⟨⟨rfl,rfl⟩,?_⟩
   repeat' (first|(simp only [aV,zT,↓wA,↓wC,wB,aY,aW,reduceEqDiff,reduceAdd,reduceSub,reduceIte,reduceCtorEq,Nat.reduceBEq,reduceLT,gN])|((first|apply aO|apply aQ|apply aK)<;>intro h<;>try simp only [h]))
   simp only [List.mem_cons,List.not_mem_nil,or_false] at hma hmi hmc hmv
   exact ⟨⟨a,i,c,v⟩,k5,s5,rfl,rfl,by omega,by omega,by unfold aAJ; simp only; omega⟩
  | false =>
   repeat' (first|(simp only [aV,↓wA,↓wC,wB,aY,aW,reduceEqDiff,reduceAdd,reduceSub,reduceIte,reduceCtorEq,Nat.reduceBEq,reduceLT,gN])|((first|apply aO|apply aQ|apply aK)<;>intro h<;>try simp only [h]))
   refine cE (kC code cv k1 s1 9 hc (by omega)) rfl rfl rfl (cF code cv rfl rfl) ?_
   rintro _ _ ⟨p,k2,s2,rfl,rfl,hk2,hk2',hp,hp'⟩
   refine ⟨⟨rfl,rfl⟩,?_⟩
   repeat' (first|(simp only [aV,zT,↓wA,↓wC,wB,aY,aW,reduceEqDiff,reduceAdd,reduceSub,reduceIte,reduceCtorEq,Nat.reduceBEq,reduceLT,gN])|((first|apply aO|apply aQ|apply aK)<;>intro h<;>try simp only [h]))
   ·refine dW 5 ?_
    simp only [lA,jX,iZ,D.unown,↓wA,↓wC,wB,aY,aW,reduceEqDiff,reduceAdd,reduceSub,reduceIte,reduceCtorEq,Nat.reduceBEq,reduceLT,gN]
    refine cE (dM code cv k2 s2 [1,5,30,100,20001,0] hc (by omega) (by simp) (by simp)) rfl rfl rfl (cF code cv rfl rfl) ?_
    rintro _ _ ⟨v,k3,s3,rfl,rfl,hk3,hk3',hmv⟩
    refine ⟨⟨rfl,rfl⟩,?_⟩
    repeat' (first|(simp only [aV,zT,↓wA,↓wC,wB,aY,aW,reduceEqDiff,reduceAdd,reduceSub,reduceIte,reduceCtorEq,Nat.reduceBEq,reduceLT,gN])|((first|apply aO|apply aQ|apply aK)<;>intro h<;>try simp only [h]))
    have hv:=lE (a:=-1) (b:=20001) hmv (by decide)
    exact ⟨⟨_,_,_,_⟩,k3,s3,rfl,rfl,by omega,by omega,by unfold aAJ; simp only; omega⟩
   ·refine dW 5 ?_
    simp only [lA,jX,iZ,D.unown,↓wA,↓wC,wB,aY,aW,reduceEqDiff,reduceAdd,reduceSub,reduceIte,reduceCtorEq,Nat.reduceBEq,reduceLT,gN]
    refine cE (dM code cv k2 s2 [1,5,30,100,20001,0] hc (by omega) (by simp) (by simp)) rfl rfl rfl (cF code cv rfl rfl) ?_
    rintro _ _ ⟨v,k3,s3,rfl,rfl,hk3,hk3',hmv⟩
    refine ⟨⟨rfl,rfl⟩,?_⟩
    repeat' (first|(simp only [aV,zT,↓wA,↓wC,wB,aY,aW,reduceEqDiff,reduceAdd,reduceSub,reduceIte,reduceCtorEq,Nat.reduceBEq,reduceLT,gN])|((first|apply aO|apply aQ|apply aK)<;>intro h<;>try simp only [h]))
    have hv:=lE (a:=-1) (b:=20001) hmv (by decide)
    exact ⟨⟨_,_,_,_⟩,k3,s3,rfl,rfl,by omega,by omega,by unfold aAJ; simp only; omega⟩
   ·refine dW 5 ?_
    simp only [lA,jX,iZ,D.unown,↓wA,↓wC,wB,aY,aW,reduceEqDiff,reduceAdd,reduceSub,reduceIte,reduceCtorEq,Nat.reduceBEq,reduceLT,gN]
    refine cE (dM code cv k2 s2 [1,12,40,77,500,998,999,1000] hc (by omega) (by simp) (by simp)) rfl rfl rfl (cF code cv rfl rfl) ?_
    rintro _ _ ⟨i,k3,s3,rfl,rfl,hk3,hk3',hmi⟩
    refine ⟨⟨rfl,rfl⟩,?_⟩
    repeat' (first|(simp only [aV,zT,↓wA,↓wC,wB,aY,aW,reduceEqDiff,reduceAdd,reduceSub,reduceIte,reduceCtorEq,Nat.reduceBEq,reduceLT,gN])|((first|apply aO|apply aQ|apply aK)<;>intro h<;>try simp only [h]))
    refine dW 6 ?_
    simp only [lA,jX,iZ,D.unown,↓wA,↓wC,wB,aY,aW,reduceEqDiff,reduceAdd,reduceSub,reduceIte,reduceCtorEq,Nat.reduceBEq,reduceLT,gN]
    refine cE (dM code cv k3 s3 [1,2,3,3,3,4] hc (by omega) (by simp) (by simp)) rfl rfl rfl (cF code cv rfl rfl) ?_
    rintro _ _ ⟨c,k4,s4,rfl,rfl,hk4,hk4',hmc⟩
    refine ⟨⟨rfl,rfl⟩,?_⟩
    repeat' (first|(simp only [aV,zT,↓wA,↓wC,wB,aY,aW,reduceEqDiff,reduceAdd,reduceSub,reduceIte,reduceCtorEq,Nat.reduceBEq,reduceLT,gN])|((first|apply aO|apply aQ|apply aK)<;>intro h<;>try simp only [h]))
    refine dW 7 ?_
    simp only [lA,jX,iZ,D.unown,↓wA,↓wC,wB,aY,aW,reduceEqDiff,reduceAdd,reduceSub,reduceIte,reduceCtorEq,Nat.reduceBEq,reduceLT,gN]
    refine cE (dM code cv k4 s4 [0,5,5,30,20001,-1] hc (by omega) (by simp) (by simp)) rfl rfl rfl (cF code cv rfl rfl) ?_
    rintro _ _ ⟨v,k5,s5,rfl,rfl,hk5,hk5',hmv⟩
    refine ⟨⟨rfl,rfl⟩,?_⟩
    repeat' (first|(simp only [aV,zT,↓wA,↓wC,wB,aY,aW,reduceEqDiff,reduceAdd,reduceSub,reduceIte,reduceCtorEq,Nat.reduceBEq,reduceLT,gN])|((first|apply aO|apply aQ|apply aK)<;>intro h<;>try simp only [h]))
    have hi:=lE (a:=0) (b:=1000) hmi (by decide)
    have hc:=lE (a:=0) (b:=4) hmc (by decide)
    have hv:=lE (a:=-1) (b:=20001) hmv (by decide)
    exact ⟨⟨_,_,_,_⟩,k5,s5,rfl,rfl,by omega,by omega,by unfold aAJ; simp only; omega⟩
   ·refine dW 5 ?_
    simp only [lA,jX,iZ,D.unown,↓wA,↓wC,wB,aY,aW,reduceEqDiff,reduceAdd,reduceSub,reduceIte,reduceCtorEq,Nat.reduceBEq,reduceLT,gN]
    refine cE (dM code cv k2 s2 [1,12,40,77,500,998,999,1000] hc (by omega) (by simp) (by simp)) rfl rfl rfl (cF code cv rfl rfl) ?_
    rintro _ _ ⟨i,k3,s3,rfl,rfl,hk3,hk3',hmi⟩
    refine ⟨⟨rfl,rfl⟩,?_⟩
    repeat' (first|(simp only [aV,zT,↓wA,↓wC,wB,aY,aW,reduceEqDiff,reduceAdd,reduceSub,reduceIte,reduceCtorEq,Nat.reduceBEq,reduceLT,gN])|((first|apply aO|apply aQ|apply aK)<;>intro h<;>try simp only [h]))
    refine dW 6 ?_
    simp only [lA,jX,iZ,D.unown,↓wA,↓wC,wB,aY,aW,reduceEqDiff,reduceAdd,reduceSub,reduceIte,reduceCtorEq,Nat.reduceBEq,reduceLT,gN]
    refine cE (dM code cv k3 s3 [1,2,3,3,3,4] hc (by omega) (by simp) (by simp)) rfl rfl rfl (cF code cv rfl rfl) ?_
    rintro _ _ ⟨c,k4,s4,rfl,rfl,hk4,hk4',hmc⟩
    refine ⟨⟨rfl,rfl⟩,?_⟩
    repeat' (first|(simp only [aV,zT,↓wA,↓wC,wB,aY,aW,reduceEqDiff,reduceAdd,reduceSub,reduceIte,reduceCtorEq,Nat.reduceBEq,reduceLT,gN])|((first|apply aO|apply aQ|apply aK)<;>intro h<;>try simp only [h]))
    refine dW 7 ?_
    simp only [lA,jX,iZ,D.unown,↓wA,↓wC,wB,aY,aW,reduceEqDiff,reduceAdd,reduceSub,reduceIte,reduceCtorEq,Nat.reduceBEq,reduceLT,gN]
    refine cE (dM code cv k4 s4 [0,5,5,30,20001,-1] hc (by omega) (by simp) (by simp)) rfl rfl rfl (cF code cv rfl rfl) ?_
    rintro _ _ ⟨v,k5,s5,rfl,rfl,hk5,hk5',hmv⟩
    refine ⟨⟨rfl,rfl⟩,?_⟩
    repeat' (first|(simp only [aV,zT,↓wA,↓wC,wB,aY,aW,reduceEqDiff,reduceAdd,reduceSub,reduceIte,reduceCtorEq,Nat.reduceBEq,reduceLT,gN])|((first|apply aO|apply aQ|apply aK)<;>intro h<;>try simp only [h]))
    have hi:=lE (a:=0) (b:=1000) hmi (by decide)
    have hc:=lE (a:=0) (b:=4) hmc (by decide)
    have hv:=lE (a:=-1) (b:=20001) hmv (by decide)
    exact ⟨⟨_,_,_,_⟩,k5,s5,rfl,rfl,by omega,by omega,by unfold aAJ; simp only; omega⟩
   ·exact ⟨⟨_,_,_,_⟩,k2,s2,rfl,rfl,by omega,by omega,by unfold aAJ; simp only; omega⟩
   ·exact ⟨⟨_,_,_,_⟩,k2,s2,rfl,rfl,by omega,by omega,by unfold aAJ; simp only; omega⟩
   ·refine dW 5 ?_
    simp only [lA,jX,iZ,D.unown,↓wA,↓wC,wB,aY,aW,reduceEqDiff,reduceAdd,reduceSub,reduceIte,reduceCtorEq,Nat.reduceBEq,reduceLT,gN]
    refine cE (dM code cv k2 s2 [1,10,20001,0] hc (by omega) (by simp) (by simp)) rfl rfl rfl (cF code cv rfl rfl) ?_
    rintro _ _ ⟨v,k3,s3,rfl,rfl,hk3,hk3',hmv⟩
    refine ⟨⟨rfl,rfl⟩,?_⟩
    repeat' (first|(simp only [aV,zT,↓wA,↓wC,wB,aY,aW,reduceEqDiff,reduceAdd,reduceSub,reduceIte,reduceCtorEq,Nat.reduceBEq,reduceLT,gN])|((first|apply aO|apply aQ|apply aK)<;>intro h<;>try simp only [h]))
    have hv:=lE (a:=-1) (b:=20001) hmv (by decide)
    exact ⟨⟨_,_,_,_⟩,k3,s3,rfl,rfl,by omega,by omega,by unfold aAJ; simp only; omega⟩
   ·exact ⟨⟨_,_,_,_⟩,k2,s2,rfl,rfl,by omega,by omega,by unfold aAJ; simp only; omega⟩
end Go.Pe.Tryz
set_option maxRecDepth 100000
set_option linter.all false
namespace Go.Pe.Tryz
open Nat (reduceEqDiff reduceAdd reduceSub reduceLT)
open Go.Proofs.Tryz
def vwS (r:Nat) (y:D) (s:SV):SV:=match s with
 | .vw q=>if q=r then .d y else .vw q
 | s=>if eK r s=true then .any else s
def vwE (r:Nat) (y:D):gI->gI
 | []=>[]
 |(k,s) :: e=>(k,vwS r y s) :: vwE r y e
theorem aC0 (r:Nat) (y:D):∀ (e:gI) (t:Nat),look (vwE r y e) t=vwS r y (look e t)
 | [],_=>rfl
 |(k,s) :: e,t=>by
  simp only [vwE,look]
  split
  ·rfl
  ·exact aC0 r y e t
theorem aDL:∀ x:D,x.unown.noOwn=true:=by
 intro x
 induction x<;>simp_all [D.unown,D.noOwn]
theorem aKZ {s:St} (r tp:Nat) {xs:D} (h1:s.o[r]?=some (.box (.st xs))) (hp:look s.e tp=.ptr r 0 []):eN s ⟨vwE r (.st xs.unown) s.e,s.o.set r (.box (.st xs.unown))⟩:=by
 intro c C a w h
 obtain ⟨C',k⟩:=freeze r none [] (x:=.st xs) (ob':=.box (.st xs.unown)) h1 rfl rfl c C a w h
 have hr:=bC h1
 refine ⟨C',k.tmps,k.defers,fun t=>?_,k.wd,k.fix⟩
 have e1:=k.env t
 have e0:=h.env t
 rw [nS] at e1
 show cB w (Ms c C') C' (look (vwE r (.st xs.unown) s.e) t) _
 rw [aC0]
 cases hs:look s.e t with
 | vw q =>
  rw [hs] at e0 e1
  by_cases hq:q=r
  ·subst hq
   obtain ⟨oc,cs,c1,c2,c3,c4⟩:=e0
   have p0:=h.env tp
   have p1:=k.env tp
   rw [nS] at p1
   rw [hp] at p0 p1
   simp only [eK,List.any_cons,List.any_nil,Bool.or_false,Bool.false_eq_true,if_false] at p1
   obtain ⟨ob0,q1,q2⟩:=p0
   obtain ⟨oc',r1,r2⟩:=p1
   rw [c1] at q1
   cases q1
   rw [q2] at r2
   have hb:oc'.blk=oc.blk:=by
    injection r2 with r2
    injection r2 with r2
    injection r2 with r2
    exact r2.symm
   obtain ⟨cs',fps,o1,o2,o3⟩:=k.wd.obs q (.box (.st xs.unown)) oc' (by rw [List.getElem?_set]; simp [hr]) r1
   rw [hb] at o1
   have e:=c3.eq o1
   subst e
   have e:=kV _ _ _ (aDL (.st xs)) o2
   subst e
   rw [vwS]
   simp only [if_true]
   exact ⟨cs,o2,c4⟩
  ·have e:([r].any fun r=>eK r (.vw q))=false:=by simp [eK,hq]
   rw [e] at e1
   simp only [vwS,hq,if_false]
   exact e1
 | _ =>
  rw [hs] at e1
  simpa [vwS] using e1
end Go.Pe.Tryz
set_option maxRecDepth 100000
set_option maxHeartbeats 2000000
set_option linter.all false
namespace Go.Pe.Tryz
open Nat (reduceEqDiff reduceAdd reduceSub reduceLT)
theorem zK {v:List Int}:lH v=true↔v.Pairwise (· < ·):=by
 rw [mT,List.pairwise_iff_getElem]
 constructor
 ·intro h i j hi hj hij
  have key:∀ n i,i + n + 1 < v.length->v.getD i 0 < v.getD (i + n + 1) 0:=by
   intro n
   induction n with
   | zero=>intro i hh; exact h i hh
   | succ n ih=>intro i hh; exact Int.lt_trans (ih i (by omega)) (h (i + n + 1) hh)
  have:=key (j - i - 1) i (by omega)
  rw [show i + (j - i - 1) + 1=j by omega] at this
  simpa only [List.getD_eq_getElem?_getD,List.getElem?_eq_getElem hi,List.getElem?_eq_getElem hj,Option.getD_some] using this
 ·intro h j hj
  have:=h j (j + 1) (by omega) hj (by omega)
  simpa only [List.getD_eq_getElem?_getD,List.getElem?_eq_getElem hj,List.getElem?_eq_getElem (show j < v.length by omega),Option.getD_some] using this
theorem qP {xs:List Cs}:pR xs=true↔(∀ x∈xs,d7 x=true)/\xs.Pairwise (fun x y=>x.i < y.i):=by
 constructor
 ·intro h
  have h1:∀ {j:Nat} {x:Cs},xs[j]?=some x->d7 x=true/\ltC xs j x=true:=fun {j x} hx=>by
   have:=List.all_eq_true.1 h j (List.mem_range.2 (bC hx))
   rw [qX hx,Bool.and_eq_true] at this
   exact this
  refine ⟨fun x hx=>?_,?_⟩
  ·obtain ⟨j,hj⟩:=List.getElem?_of_mem hx
   exact (h1 hj).1
  ·have key:∀ n i x y,xs[i]?=some x->xs[i + n + 1]?=some y->x.i < y.i:=by
    intro n
    induction n with
    | zero =>
     intro i x y hx hy
     have:=(h1 hy).2
     simp only [Nat.add_zero,ltC,hx] at this
     exact of_decide_eq_true this
    | succ n ih =>
     intro i x y hx hy
     obtain ⟨z,hz⟩:=cK (show i + n + 1 < xs.length by have:=bC hy; omega)
     have a:=ih i x z hx hz
     have b:=(h1 hy).2
     have hy':ltC xs (i + n + 1 + 1) y=decide (z.i < y.i):=by simp only [ltC,hz]
     rw [show i + (n + 1) + 1=i + n + 1 + 1 by omega,hy'] at b
     have:=of_decide_eq_true b
     omega
   rw [List.pairwise_iff_getElem]
   intro i j hi hj hij
   refine key (j - i - 1) i _ _ (List.getElem?_eq_getElem hi) ?_
   rw [show i + (j - i - 1) + 1=j by omega]
   exact List.getElem?_eq_getElem hj
 ·rintro ⟨h1,h2⟩
  refine qR fun j hj=>?_
  obtain ⟨x,hx⟩:=cK hj
  rw [qX hx,h1 x (List.mem_of_getElem? hx),Bool.true_and]
  cases j with
  | zero=>rfl
  | succ k =>
   obtain ⟨y,hy⟩:=cK (show k < xs.length by omega)
   simp only [ltC,hy]
   rw [List.pairwise_iff_getElem] at h2
   have:=h2 k (k + 1) (by omega) hj (by omega)
   rw [List.getElem?_eq_getElem (by omega)] at hx hy
   injection hx with hx
   injection hy with hy
   rw [hx,hy] at this
   exact decide_eq_true this
theorem aNi {xs:List Cs} (h:xs.Pairwise (fun x y=>x.i < y.i)) {x y:Cs} (hx:x∈xs) (hy:y∈xs) (e:x.i=y.i):x=y:=by
 induction xs with
 | nil=>cases hx
 | cons a t ih =>
  rw [List.pairwise_cons] at h
  rcases List.mem_cons.1 hx with h1|h1<;>rcases List.mem_cons.1 hy with h2|h2
  ·rw [h1,h2]
  ·have:=h.1 y h2; rw [h1] at e; omega
  ·have:=h.1 x h1; rw [h2] at e; omega
  ·exact ih h.2 h1 h2
theorem aLb {o:Off} (h:cM o=true) {x y:Cs} (hx:x∈o.cs) (hy:y∈o.cs) (e:x.i=y.i):x=y:=by
 rw [cM,Bool.and_eq_true] at h
 exact aNi (qP.1 h.2).2 hx hy e
theorem xQ {p:Cs->Bool} {xs:List Cs} {n:Int}:n∈gP p xs↔∃ x∈xs,p x=true/\x.i=n:=by
 simp only [gP,List.mem_map,List.mem_filter]
 exact ⟨fun ⟨x,⟨a,b⟩,c⟩=>⟨x,a,b,c⟩,fun ⟨x,a,b,c⟩=>⟨x,⟨a,b⟩,c⟩⟩
theorem aHm {o q:Off} {k id a v:Int} (h:gW o k id a v=some q):cM o=true/\mkO o k id a v=some q:=by
 unfold gW at h
 split at h
 ·rename_i hw
  rw [Bool.and_eq_true] at hw
  refine ⟨hw.1,?_⟩
  cases hm:mkO o k id a v with
  | none=>rw [hm] at h; cases h
  | some o' =>
   rw [hm] at h
   simp only [Option.filter] at h
   split at h
   ·exact h
   ·cases h
 ·cases h
theorem mk6 {o q:Off} {id a v:Int} (h:mkO o 6 id a v=some q):∃ (i:Nat) (x:Cs),o.cs[i]?=some x/\x.i=id/\cY o x=true/\q=jM o i x:=by
 unfold mkO at h
 rw [if_neg (by decide)] at h
 split at h
 ·cases h
 rw [if_neg (by decide),if_neg (by decide)] at h
 rcases kT o.cs id with ⟨_,hn⟩|⟨i,x,hi,hr,hx⟩
 ·rw [if_neg (of_decide_eq_false hn)] at h; cases h
 rw [hi,if_pos (by omega),Int.toNat_natCast,hr] at h
 simp only at h
 rw [if_neg (by decide),if_neg (by decide),if_pos trivial] at h
 split at h
 ·rename_i hd
  injection h with h
  exact ⟨i,x,hr,hx,hd.2,h.symm⟩
 ·cases h
theorem aLU {o q:Off} {id a v:Int} (h:gW o 6 id a v=some q):(gP (qI o) o.cs).contains id=true/\(gP (nK o) o.cs).contains id=false/\(q.cs.length:Int) + q.kept + q.moved + q.led.length=o.cs.length + o.kept + o.moved + o.led.length:=by
 obtain ⟨ho,hm⟩:=aHm h
 obtain ⟨i,x,hr,hx,hd,rfl⟩:=mk6 hm
 have hd0:=hd
 unfold cY at hd
 rw [Bool.and_eq_true] at hd
 have hlt:=bC hr
 refine ⟨List.contains_iff_mem.2 (xQ.2 ⟨x,List.mem_of_getElem? hr,hd.1,hx⟩),?_,?_⟩
 ·cases hc:(gP (nK o) o.cs).contains id with
  | false=>rfl
  | true =>
   obtain ⟨y,hy,hb,hi⟩:=xQ.1 (List.contains_iff_mem.1 hc)
   have:=aLb ho hy (List.mem_of_getElem? hr) (hi.trans hx.symm)
   subst this
   simp only [nK,Bool.and_eq_true,decide_eq_true_eq] at hb
   simp only [Bool.or_eq_true,decide_eq_true_eq] at hd
   omega
 ·have hl:(o.cs.eraseIdx i).length=o.cs.length - 1:=List.length_eraseIdx_of_lt hlt
  unfold jM
  split
  ·simp only [hl]; omega
  ·split
   ·simp only [hl]; omega
   ·simp only [hl,List.length_append,List.length_singleton]; omega
theorem aL2 {o:Off} {n:Int} (h:n∈gP (nK o) o.cs):(gP (qI o) o.cs).contains n=true:=by
 obtain ⟨x,hx,hb,hi⟩:=xQ.1 h
 simp only [nK,Bool.and_eq_true] at hb
 exact List.contains_iff_mem.2 (xQ.2 ⟨x,hx,hb.1.1,hi⟩)
theorem aLH {o:Off} {n a v:Int} (h:n∈gP (nK o) o.cs):gW o 6 n a v=none:=by
 cases hs:gW o 6 n a v with
 | none=>rfl
 | some q =>
  have:=(aLU hs).2.1
  rw [List.contains_iff_mem.2 h] at this
  cases this
theorem aHW {v:Int} {x:Cs} (h:d7 x=true):d7 (l9 v x)=true:=by
 simp only [d7,Bool.and_eq_true,decide_eq_true_eq,List.all_eq_true] at h ⊢
 obtain ⟨⟨⟨⟨h1,h2⟩,h3⟩,h4⟩,h5,h6⟩:=h
 refine ⟨⟨⟨⟨h1,h2⟩,h3⟩,?_⟩,fun n hn=>h5 n (List.mem_filter.1 hn).1,?_⟩
 ·have:(l9 v x).h.length<=x.h.length:=List.length_filter_le _ _
  omega
 ·exact zK.2 ((zK.1 h6).filter _)
theorem aJk {o:Off} {v:Int} (h:cM o=true):cM { o with cs:=o.cs.map (l9 v) }=true:=by
 rw [cM,Bool.and_eq_true] at h ⊢
 refine ⟨?_,?_⟩
 ·have:=h.1
  simp only [mW,List.length_map] at this ⊢
  exact this
 ·obtain ⟨h1,h2⟩:=qP.1 h.2
  refine qP.2 ⟨fun x hx=>?_,?_⟩
  ·obtain ⟨y,hy,rfl⟩:=List.mem_map.1 hx
   exact aHW (h1 y hy)
  ·rw [List.pairwise_map]
   exact h2.imp fun h=>h
theorem aIv (v:Int) (xs:List Cs):gP (rN v) (xs.map (l9 v))=[]:=by
 unfold gP
 rw [List.map_eq_nil_iff,List.filter_eq_nil_iff]
 intro x hx
 obtain ⟨y,_,rfl⟩:=List.mem_map.1 hx
 simp [rN,l9]
theorem aGk {o:Off} {v:Int} (ho:cM o=true) (hv:bX v 1 9=true):gW o 4 0 0 v=if oK v o.cs=true then some { o with cs:=o.cs.map (l9 v) } else none:=by
 have hw:=jH.1 hv
 unfold gW
 rw [if_pos (by rw [ho,jP (by omega) (by omega)]; rfl)]
 have e:mkO o 4 0 0 v=if oK v o.cs=true then some { o with cs:=o.cs.map (l9 v) } else none:=by
  unfold mkO
  rw [if_neg (by decide),if_neg (by decide),if_neg (by decide),if_pos rfl]
  simp
 rw [e]
 split
 ·simp [Option.filter,aJk ho]
 ·rfl
theorem aHp (v:Int) (xs:List Cs):oK v xs=decide ((0:Int) < (gP (rN v) xs).length):=by
 unfold gP oK
 rw [List.length_map]
 induction xs with
 | nil=>rfl
 | cons a t ih =>
  rw [List.any_cons,ih,List.filter_cons]
  cases hb:rN v a with
  | true=>rw [show a.h.contains v=true from hb,Bool.true_or,if_pos rfl]; exact (decide_eq_true (by simp only [List.length_cons]; omega)).symm
  | false=>rw [show a.h.contains v=false from hb,Bool.false_or,if_neg (by decide)]
end Go.Pe.Tryz
set_option maxRecDepth 100000
set_option maxHeartbeats 4000000
set_option linter.all false
namespace Go.Pe.Tryz
open Nat (reduceEqDiff reduceAdd reduceSub reduceLT)
open Go.Proofs.Tryz
theorem aKy (code:List UInt8):Fn prog 5 [.sl false 1 (cQ code)] (fun rs=>rs=[.bool (decide ((65536:Int) < (code.length:Int)))]):=by
 refine bV (fn:=f5) (by exact func5) c5 r5 (n:=6) (by rfl) (rv:=[.tmp 2]) (by rfl) (by simp) ?_
 unfold m5
 try simp only [wQ]
 repeat' (first|(simp only [iQ,↓wA,↓wC,wB,aY,aW,reduceEqDiff,reduceAdd,reduceSub,reduceIte,reduceCtorEq,Nat.reduceBEq,reduceLT])|((first|apply aO|apply aQ|apply aK)<;>intro h<;>try simp only [h]))
theorem s7 (v:List Int) (hlen:v.length<=1048576):Fn prog 23 [.sl false 1 (dl iD v),.sl false 1 (dl iD v)] (fun rs=>rs=[.bool true]):=by
 refine bV (fn:=f23) (by exact func23) c23 r23 (n:=26) (by rfl) (rv:=[.tmp 4]) (by rfl) (by simp) ?_
 unfold m23
 try simp only [wQ]
 repeat' (first|(simp only [a7,↓wA,↓wC,wB,aY,aW,reduceEqDiff,reduceAdd,reduceSub,reduceIte,reduceCtorEq,Nat.reduceBEq,reduceLT])|((first|apply aO|apply aQ|apply aK)<;>intro h<;>try simp only [h]))
 refine cP v.length (fun i:Nat=>⟨[(0,.d (.sl false 1 (dl iD v))),(1,.d (.sl false 1 (dl iD v))),(5,.d (.int .i64 i))],[]⟩) (fun _=>True) (bF _ rfl ⟨⟨rfl,rfl⟩,⟨rfl,rfl⟩,⟨rfl,rfl⟩,trivial⟩) trivial ?_ ?_
 ·intro i hlt _ hd h0
  obtain ⟨r,hr⟩:=cK hlt
  repeat' (first|(simp only [a7,bW,hd,Int.toNat_natCast,hr,Option.map_some,h0,aV,↓e9,↓wA,↓wC,wB,aY,aW,reduceEqDiff,reduceAdd,reduceSub,reduceIte,reduceCtorEq,Nat.reduceBEq,reduceLT])|(with_reducible refine bA ?_ ?_; focus (simp only [cV]; omega))|((first|apply aO|apply aQ|apply aK)<;>intro h<;>try simp only [h]))
  exact ⟨i + 1,(bF _ rfl ⟨⟨rfl,rfl⟩,⟨rfl,rfl⟩,⟨rfl,rfl⟩,trivial⟩),by omega,by omega⟩
 ·intro _ hd
  repeat' (first|(simp only [a7,hd,↓wA,↓wC,wB,aY,aW,reduceEqDiff,reduceAdd,reduceSub,reduceIte,reduceCtorEq,Nat.reduceBEq,reduceLT])|((first|apply aO|apply aQ|apply aK)<;>intro h<;>try simp only [h]))
theorem aKf (v:List Int) (n:Int) (hlen:v.length<=1048576):Fn prog 14 [.sl false 1 (dl iD v),.int .i64 n] (fun rs=>rs=[.bool (v.contains n)]):=by
 rw [<- mG]
 refine bV (fn:=f14) (by exact func14) c14 r14 (n:=18) (by rfl) (rv:=[.tmp 4]) (by rfl) (by simp) ?_
 unfold m14
 try simp only [wQ]
 repeat' (first|(simp only [a7,↓wA,↓wC,wB,aY,aW,reduceEqDiff,reduceAdd,reduceSub,reduceIte,reduceCtorEq,Nat.reduceBEq,reduceLT])|((first|apply aO|apply aQ|apply aK)<;>intro h<;>try simp only [h]))
 refine cP v.length (fun i:Nat=>⟨[(0,.d (.sl false 1 (dl iD v))),(1,.d (.int .i64 n)),(5,.d (.int .i64 i))],[]⟩) (fun i=>∀ j r,j < i->v[j]?=some r->decide (n=r)=false) (bF _ rfl ⟨⟨rfl,rfl⟩,⟨rfl,rfl⟩,⟨rfl,rfl⟩,trivial⟩) (fun j r hj=>by omega) ?_ ?_
 ·intro i hlt hinv hd h0
  obtain ⟨r,hr⟩:=cK hlt
  have hsym:decide (r=n)=decide (n=r):=decide_eq_decide.2 eq_comm
  repeat' (first|(simp only [a7,bW,hd,Int.toNat_natCast,hr,Option.map_some,h0,aV,↓e9,hsym,↓wA,↓wC,wB,aY,aW,reduceEqDiff,reduceAdd,reduceSub,reduceIte,reduceCtorEq,Nat.reduceBEq,reduceLT])|(with_reducible refine bA ?_ ?_; focus (simp only [cV]; omega))|((first|apply aO|apply aQ|apply aK)<;>intro h<;>try simp only [h]))
  ·have:v.any (fun x=>decide (n=x))=true:=List.any_eq_true.2 ⟨r,List.mem_of_getElem? hr,h⟩
   rw [this]
  ·refine d8 (bF _ rfl ⟨⟨rfl,rfl⟩,⟨rfl,rfl⟩,⟨rfl,rfl⟩,trivial⟩) hlt fun j s hj hs=>?_
   by_cases e:j=i
   ·subst e; rw [hr] at hs; injection hs with hs; rw [<- hs]; exact h
   ·exact hinv j s (by omega) hs
 ·intro hinv hd
  have:v.any (fun x=>decide (n=x))=false:=by
   rw [List.any_eq_false]
   intro x hx
   obtain ⟨j,hj⟩:=List.getElem?_of_mem hx
   simp [hinv j x (bC hj) hj]
  rw [this]
  repeat' (first|(simp only [a7,hd,↓wA,↓wC,wB,aY,aW,reduceEqDiff,reduceAdd,reduceSub,reduceIte,reduceCtorEq,Nat.reduceBEq,reduceLT])|((first|apply aO|apply aQ|apply aK)<;>intro h<;>try simp only [h]))
theorem aFn (v w:List Int) (hv:v.length<=1048576) (hw:w.length<=1048576) (h:∀ n∈v,w.contains n=true):Fn prog 25 [.sl false 1 (dl iD v),.sl false 1 (dl iD w)] (fun rs=>rs=[.bool true]):=by
 refine bV (fn:=f25) (by exact func25) c25 r25 (n:=19) (by rfl) (rv:=[.tmp 4]) (by rfl) (by simp) ?_
 unfold m25
 try simp only [wQ]
 repeat' (first|(simp only [a7,↓wA,↓wC,wB,aY,aW,reduceEqDiff,reduceAdd,reduceSub,reduceIte,reduceCtorEq,Nat.reduceBEq,reduceLT])|((first|apply aO|apply aQ|apply aK)<;>intro h<;>try simp only [h]))
 refine cP v.length (fun i:Nat=>⟨[(0,.d (.sl false 1 (dl iD v))),(1,.d (.sl false 1 (dl iD w))),(5,.d (.int .i64 i))],[]⟩) (fun _=>True) (bF _ rfl ⟨⟨rfl,rfl⟩,⟨rfl,rfl⟩,⟨rfl,rfl⟩,trivial⟩) trivial ?_ ?_
 ·intro i hlt _ hd h0
  obtain ⟨r,hr⟩:=cK hlt
  have hH:=aKf w r hw
  rw [h r (List.mem_of_getElem? hr)] at hH
  repeat' (first|(simp only [a7,bW,hd,Int.toNat_natCast,hr,Option.map_some,h0,bJ,aV,↓e9,↓wA,↓wC,wB,aY,aW,reduceEqDiff,reduceAdd,reduceSub,reduceIte,reduceCtorEq,Nat.reduceBEq,reduceLT])|(refine aZ (hH) rfl rfl ?_)|(refine a6 (hH) rfl rfl ?_)|(with_reducible refine bA ?_ ?_; focus (simp only [cV]; omega))|((first|apply aO|apply aQ|apply aK)<;>intro h<;>try simp only [h]))
  exact ⟨i + 1,(bF _ rfl ⟨⟨rfl,rfl⟩,⟨rfl,rfl⟩,⟨rfl,rfl⟩,trivial⟩),by omega,by omega⟩
 ·intro _ hd
  repeat' (first|(simp only [a7,hd,↓wA,↓wC,wB,aY,aW,reduceEqDiff,reduceAdd,reduceSub,reduceIte,reduceCtorEq,Nat.reduceBEq,reduceLT])|((first|apply aO|apply aQ|apply aK)<;>intro h<;>try simp only [h]))
end Go.Pe.Tryz
set_option maxRecDepth 100000
set_option maxHeartbeats 40000000
set_option linter.all false
namespace Go.Pe.Tryz
open Nat (reduceEqDiff reduceAdd reduceSub reduceLT)
open Go.Proofs.Tryz
def aKi (n:Int):Off:=⟨n,[],0,0,[]⟩
theorem aDG (n:Int) (h1:0<=n) (h2:n<=20000):Fn prog 20 [.int .i64 n] (fun rs=>rs=[(aKi n).w,.bool true]):=by
 have h:bX n 0 20000=true:=by simp [bX,h1,h2]
 refine bV (fn:=f20) (by exact func20) c20 r20 (n:=12) (by rfl) (rv:=[.cell 2 27,.tmp 3]) (by rfl) (by simp) ?_
 unfold m20
 try simp only [wQ]
 try simp only [↓wA,↓wC,wB,aY,aW,reduceEqDiff,reduceAdd,reduceSub,reduceIte,reduceCtorEq,Nat.reduceBEq,reduceLT,bU]
 refine aZ (x6 n) rfl rfl ?_
 simp only [h,↓wA,↓wC,wB,aY,aW,reduceEqDiff,reduceAdd,reduceSub,reduceIte,reduceCtorEq,Nat.reduceBEq,reduceLT,bU]
 rfl
theorem aLx (n:Int) (h1:0<=n) (h2:n<=20000):cM (aKi n)=true:=by
 simp [cM,aKi,mW,pR,wV,bX,h1,h2]
theorem aLK {s:St} {r:Nat} (o:Off) (tp:Nat) (h1:s.o[r]?=some (.box o.w)) (hp:look s.e tp=.ptr r 0 []):eN s ⟨vwE r o.s s.e,s.o.set r (.box o.s)⟩:=by
 have h:=aKZ r tp h1 hp
 rw [show o.s=o.w.unown from (Off.w_unown o).symm]
 exact h
theorem aND {l:List Ob} {r:Nat} {o:Off} (h:l[r]?=some (.box o.w)):cA l [.vw r]=some [o.s]:=by
 have e:oR l r=some o.w:=by unfold oR; rw [h]
 simp only [cA,cW,e]
 show (match (some (D.st _):Option D),some ([]:List D) with|some x,some xs=>some (x :: xs)|_,_=>none)=_
 rw [show o.s=o.w.unown from (Off.w_unown o).symm]
 rfl
theorem aNG {l:List Ob} {r:Nat} {o:Off} {x:D} (h:l[r]?=some (.box o.w)):cA l [.vw r,.d x]=some [o.s,x]:=by
 have e:oR l r=some o.w:=by unfold oR; rw [h]
 simp only [cA,cW,e]
 rw [show o.s=o.w.unown from (Off.w_unown o).symm]
 rfl
theorem aIy {o:Off} {t:Stp} (ho:o.ok0) (h:lF o t.k t.i t.a t.v=false):Fn prog 8 [o.s,t.d] (fun rs=>rs=[aEk.w,.bool false]):=by
 have h1:=uL o t.k t.i t.a t.v ho
 have e:nI o t.k t.i t.a t.v=aEk:=by
  unfold nI
  unfold lF at h
  cases hq:gW o t.k t.i t.a t.v with
  | none=>rfl
  | some q=>rw [hq] at h; cases h
 rw [h,e] at h1
 exact h1
theorem aH7 {o:Off} {t:Stp} (ho:o.ok0) (h:lF o t.k t.i t.a t.v=true):∃ q:Off,cM q=true/\Fn prog 8 [o.s,t.d] (fun rs=>rs=[q.w,.bool true]):=by
 have h1:=uL o t.k t.i t.a t.v ho
 unfold lF at h
 cases hq:gW o t.k t.i t.a t.v with
 | none=>rw [hq] at h; cases h
 | some q =>
  refine ⟨q,aIe hq,?_⟩
  unfold nI lF at h1
  rw [hq] at h1
  exact h1
theorem aLu {o:Off}:eV [0] o.w=0:=rfl
theorem aKq {o:Off}:eV [2] o.w=2:=rfl
theorem aKN {o:Off}:iS [0] o.w=some (.int .i64 o.day):=rfl
theorem aKu {o:Off}:iS [2] o.w=some (.int .i64 o.kept):=rfl
theorem aLR {o:Off} {n:Int}:j6 [0] o.w (.int .i64 n)=Off.w { o with day:=n }:=rfl
theorem aKV {o:Off} {n:Int}:j6 [2] o.w (.int .i64 n)=Off.w { o with kept:=n }:=rfl
theorem aL0 {o:Off} {x:D}:j6 [1] o.w x=cG o x (.sl true 1 (dl D.str o.led)):=rfl
theorem aKJ {o:Off} {x:D}:j6 [4] o.w x=cG o (.sl true 4 (dl Cs.s o.cs)) x:=rfl
theorem aCO {o:Off} {x y:D}:eV [1] (cG o x y)=1:=rfl
theorem aDo {o:Off} {x y:D}:iS [1] (cG o x y)=some x:=rfl
theorem aDj {o:Off} {x y z:D}:j6 [1] (cG o x y) z=cG o z y:=rfl
theorem aHQ {o:Off} {x y:D} {b:Bool}:eV [4] (cG o (.sl b 4 x) y)=4:=rfl
theorem aHo {o:Off} {x y:D}:iS [4] (cG o x y)=some y:=rfl
theorem aH9 {o:Off} {x y z:D}:j6 [4] (cG o x y) z=cG o x z:=rfl
theorem aI8 {α:Type} {s t:St} {S:α->St} (h:iT s S) (k:∀ x,eN (S x) t):eN s t:=fun c C a w r=>by
 obtain ⟨x,C',r'⟩:=h c C a w r
 exact k x c C' a w r'
def csg (p:Cs×Bool):D:=if p.2=true then p.1.o else p.1.s
theorem aMq (xs:List Cs):dl Cs.s xs=dl csg (xs.map fun c=>(c,false)):=by
 unfold dl
 rw [List.map_map]
 rfl
theorem aFB (xs:List Cs) (x:Cs):(dl Cs.s xs).app (D.cons x.o .nil)=dl csg ((xs.map fun c=>(c,false)) ++ [(x,true)]):=by
 rw [aMq]
 exact iG (f:=csg) _ (x,true)
theorem aJX (xs:List Cs) (x:Cs):dl csg ((xs.map fun c=>(c,false)) ++ [(x,false)])=dl Cs.s (xs ++ [x]):=by
 rw [aMq,List.map_append]
 rfl
theorem aIN (xs:List Cs) (x:Cs):iY (.val (.sl true 4 ((dl Cs.s xs).app (D.cons x.o .nil)))) (some xs.length) [3]=some (.sl true 1 (dl iD x.h)):=by
 rw [aFB]
 simp only [iY,bW]
 have h:((xs.map fun c=>(c,false)) ++ [(x,true)])[xs.length]?=some (x,true):=by
  rw [List.getElem?_append_right (by simp)]
  simp
 rw [h]
 rfl
theorem aHG (xs:List Cs) (x:Cs):cX (.val (.sl true 4 ((dl Cs.s xs).app (D.cons x.o .nil)))) (some xs.length) [3] (D.unown (.sl true 1 (dl iD x.h)))=.val (.sl true 4 (dl Cs.s (xs ++ [x]))):=by
 rw [aFB]
 simp only [cX,bW]
 have h:((xs.map fun c=>(c,false)) ++ [(x,true)])[xs.length]?=some (x,true):=by
  rw [List.getElem?_append_right (by simp)]
  simp
 rw [h]
 have e:j6 [3] ((Option.map csg (some (x,true))).getD .nil) (D.unown (.sl true 1 (dl iD x.h)))=csg (x,false):=by
  simp only [D.unown,c9]
  rfl
 rw [e,i8,<-aJX]
 congr 3
 rw [List.set_append_right _ _ (by simp)]
 simp
theorem aF6 {o:Off} {x:Cs} {e:gI} {c0 c1 c2 c3 c4 c5:Ob} {l:List Ob} (h0:wT 7 [c0,c1,c2,c3,c4,c5,.box (Off.w { o with cs:=o.cs ++ [x] })]=true) (hl:l.length=5):eN ⟨[(0,.ptr 0 0 []),(2,.ptr 3 0 []),(3,.ptr 6 0 [])],[c0,c1,c2,c3,c4,c5,.box (cG o (.sl true 4 ((dl Cs.s o.cs).app (D.cons x.o .nil))) (.sl true 1 (dl D.str o.led)))] ++ l⟩ ⟨[(0,.ptr 0 0 []),(2,.ptr 3 0 []),(3,.ptr 6 0 [])],[c0,c1,c2,c3,c4,c5,.box (Off.w { o with cs:=o.cs ++ [x] })]⟩:=by
 obtain ⟨l0,l1,l2,l3,l4,rfl⟩:∃ l0 l1 l2 l3 l4,l=[l0,l1,l2,l3,l4]:=by
  match l,hl with
  | [a,b,c,d,e],_=>exact ⟨a,b,c,d,e,rfl⟩
 refine aI8 (eA 6 none [1] (es:=4) (xs:=(dl Cs.s o.cs).app (D.cons x.o .nil)) rfl rfl) fun v=>?_
 refine eN.trans (freeze 12 (some o.cs.length) [3] (x:=.sl true 1 (dl iD x.h)) (ob':=.val (.sl true 4 (dl Cs.s (o.cs ++ [x])))) rfl (aIN o.cs x) (aHG o.cs x)) ?_
 refine eN.trans (jQ 6 13 12 none [1] (ow:=true) (es:=4) (xs:=dl Cs.s (o.cs ++ [x])) (ob':=.box (Off.w { o with cs:=o.cs ++ [x] })) rfl rfl rfl rfl (by decide) rfl) ?_
 exact bF _ rfl ⟨⟨rfl,rfl⟩,⟨rfl,rfl⟩,⟨rfl,rfl⟩,trivial⟩ h0
theorem aG5 {o:Off} {x:Cs} (h:cM o=true) (h1:0<=x.i/\x.i<=1000) (h2:x.h.length<=10/\∀ n∈x.h,0<=n/\n<=1000):sX { o with cs:=o.cs ++ [x] }:=by
 have hd:=aCf h
 have hp:=dG h
 refine ⟨by simp only [List.length_append,List.length_singleton]; omega,fun y hy=>?_,hd.2.2.1,hd.2.2.2⟩
 rcases List.mem_append.1 hy with hy|hy
 ·exact hd.2.1 y hy
 ·rw [List.mem_singleton.1 hy]
  exact ⟨h1.1,h1.2,h2⟩
theorem tH (l:List Nat) (s:St):iT s (fun _:Unit=>⟨kS l s.e,s.o⟩):=eN.x fun c C a w h=>⟨C,h.weak (jI l s.e)⟩
theorem aN8 {P:PG} {un:List Nat} {x y:MP} {R:List Nat} {s:St} {K:St->Prop} (hx:d4 P un x R s K) (hy:d4 P un y R s K):d4 P un (.br x y) R s K:=aDV (P:=P) ▸ ⟨hx,hy⟩
theorem aQQ {P:PG} {un:List Nat} {i:Nat} {m:MOp} {k:MP} {R:List Nat} {s:St} {K:St->Prop} (h:∀ k',k'=k->dS P [m] s fun s'=>d4 P un k' (xF (qS s m) R) s' K):d4 P un (.q i m k) R s K:=by rw [aFF]; exact h k rfl
theorem aPf {P:PG} {un:List Nat} {i:Nat} {m:MOp} {k:MP} {s:St} {K:St->Prop} (h:∀ k',k'=k->dS P [m] s fun s'=>d4 P un k' [] s' K):d4 P un (.e i m k) [] s K:=by rw [aCw]; exact h k rfl
theorem aOl {P:PG} {un:List Nat} {i r:Nat} {m:MOp} {k:MP} {R:List Nat} {s:St} {K:St->Prop} (h:∀ k',k'=k->wY P (un.contains i) un m k' (r :: R) s K):d4 P un (.e i m k) (r :: R) s K:=by rw [aCL]; exact h k rfl
theorem aQX {G:Prop} {P:PG} {un R:List Nat} {m:MP} {K:St->Prop} {α:Type} (S:α->St) (C:α->Prop) (a:Held (∀ k,k=m->∀ x,C x->d4 P un k R (S x) K)->G) (b:∀ x,C x->d4 P un m R (S x) K):G:=a ⟨fun _ h=>h ▸ b⟩
theorem vJ (code:List UInt8) (k:Nat) (seed:Int) (hc:code.length<=1048576) (hk:k<=999999000000):wP prog 35 true (xM code k seed) []
  (fun x' rs=>∃ (o:Off) (k':Nat) (seed':Int),x'=xM code k' seed'/\rs=[o.s]/\k<=k'/\k'<=k + 3000/\sX o):=by
 refine mP (ps:=[[1,1,1,0,1,0,1,1,1,1,1,0,0,0,0,0],[1,1,1,0,1,0,1,1,1,0],[1,1,1,1,0],[1,1,1,1,1],[0]]) (fn:=f35) (by exact func35) c35 r35 (n:=80) (by rfl) (rv:=[.cell 2 27]) (by rfl) (by decide) (by simp) ?_
 unfold m35
 try simp only [wQ]
 simp only [dP,eR]
 simp only [xM]
 refine dQ _ (aFw false 0 none [0] (es:=1) (xs:=cQ code) rfl rfl) fun cv=>?_
 simp only [cX,↓wA,↓wC,wB,aY,aW,reduceEqDiff,reduceAdd,reduceSub,reduceIte,reduceCtorEq,Nat.reduceBEq,reduceLT,bU]
 repeat' (first|(simp only [aV,↓wA,↓wC,wB,aY,aW,reduceEqDiff,reduceAdd,reduceSub,reduceIte,reduceCtorEq,Nat.reduceBEq,reduceLT,bU])|((first|apply aO|apply aQ|apply aK)<;>intro h<;>try simp only [h]))
 refine cE (dM code cv _ _ [0,0,100,19980] hc (by omega) (by simp) (by simp)) rfl rfl rfl (cF code cv rfl rfl) ?_
 rintro _ _ ⟨m,k1,s1,rfl,rfl,hk1,hk1',hmm⟩
 refine ⟨⟨rfl,rfl⟩,?_⟩
 have hm2:=lE (a:=0) (b:=20000) hmm (by decide)
 have hwV:∀ q:Off,q.w.isV=true:=fun _=>rfl
 have hwS:∀ q:Off,q.w.size=5:=fun _=>rfl
 have hwB:∀ q:Off,q.w.isStB=true:=fun _=>rfl
 have hst:∀ t:Stp,t.d.noOwn=true:=fun _=>rfl
 repeat' (first|(simp only [aV,Off.w_noOwn,hwV,hwS,↓wA,↓wC,wB,aY,aW,reduceEqDiff,reduceAdd,reduceSub,reduceIte,reduceCtorEq,Nat.reduceBEq,reduceLT,bU])|(refine aZ (aDG m hm2.1 hm2.2) rfl rfl ?_)|((first|apply aO|apply aQ|apply aK)<;>intro h<;>try simp only [h]))
 refine cE (kC code cv k1 s1 30 hc (by omega)) rfl rfl rfl (cF code cv rfl rfl) ?_
 rintro _ _ ⟨n,k2,s2,rfl,rfl,hk2,hk2',hn,hn'⟩
 refine ⟨⟨rfl,rfl⟩,?_⟩
 repeat' (first|(simp only [aV,↓wA,↓wC,wB,aY,aW,reduceEqDiff,reduceAdd,reduceSub,reduceIte,reduceCtorEq,Nat.reduceBEq,reduceLT,bU])|((first|apply aO|apply aQ|apply aK)<;>intro h<;>try simp only [h]))
 refine dZ (fun x:Off×Int×Nat×Int=>⟨[(0,.ptr 0 0 []),(2,.ptr 3 0 []),(3,.ptr 6 0 []),(5,.d (.int .i64 x.2.1))],[.box (l8 cv x.2.2.1 x.2.2.2),.val (.sl false 1 (cQ code)),.tag 1 cv,.box zO,.val (.sl true 1 (dl iD [0,0,100,19980])),.dead,.box x.1.w]⟩)
  (fun x=>cM x.1=true/\(0<=x.2.1/\x.2.1 < 30)/\k<=x.2.2.1/\(x.2.2.1:Int) + 40 * x.2.1<=k + 1300) (fun x=>x.2.1.toNat) (aKi m,n,k2,s2) (bF _ rfl ⟨⟨rfl,rfl⟩,⟨rfl,rfl⟩,⟨rfl,rfl⟩,⟨rfl,rfl⟩,trivial⟩) ⟨aLx m hm2.1 hm2.2,by simp only; omega,by simp only; omega,by simp only; omega⟩ ?_
 rintro ⟨o,n,k3,s3⟩ ⟨i1,i2,i3,i4⟩
 simp only at i1 i2 i3 i4 ⊢
 cases h1:decide (0 < n) with
 | false =>
  have hn0:=of_decide_eq_false h1
  have hd:=aCf i1
  repeat' (first|(simp only [h1,aV,↓wA,↓wC,wB,aY,aW,reduceEqDiff,reduceAdd,reduceSub,reduceIte,reduceCtorEq,Nat.reduceBEq,reduceLT,bU])|((first|apply aO|apply aQ|apply aK)<;>intro h<;>try simp only [h]))
  refine cE (kC code cv k3 s3 32 hc (by omega)) rfl rfl rfl (cF code cv rfl rfl) ?_
  rintro _ _ ⟨p,k4,s4,rfl,rfl,hk4,hk4',hp,hp'⟩
  refine ⟨⟨rfl,rfl⟩,?_⟩
  apply aNZ (fun x:Off×Nat×Int=>(⟨[(0,.ptr 0 0 []),(2,.ptr 3 0 []),(3,.ptr 6 0 [])],[.box (l8 cv x.2.1 x.2.2),.val (.sl false 1 (cQ code)),.tag 1 cv,.box zO,.val (.sl true 1 (dl iD [0,0,100,19980])),.dead,.box x.1.w]⟩:St)) (fun x=>sX x.1/\k<=x.2.1/\x.2.1<=k + 3000)
  case a =>
   intro rest
   cases q0:decide (p=0) with
   | true =>
    repeat' (first|(simp only [q0,aV,↓wA,↓wC,wB,aY,aW,reduceEqDiff,reduceAdd,reduceSub,reduceIte,reduceCtorEq,Nat.reduceBEq,reduceLT,bU])|((first|apply aO|apply aQ|apply aK)<;>intro h<;>try simp only [h]))
    refine cE (dM code cv _ _ [-1,0,20001] hc (by omega) (by simp) (by simp)) rfl rfl rfl (cF code cv rfl rfl) ?_
    rintro _ _ ⟨m0,k5,s5,rfl,rfl,hk5,hk5',hmm0⟩
    refine ⟨⟨rfl,rfl⟩,?_⟩
    repeat' (first|(simp only [aLu,aKN,aLR,D.size,aV,↓wA,↓wC,wB,aY,aW,reduceEqDiff,reduceAdd,reduceSub,reduceIte,reduceCtorEq,Nat.reduceBEq,reduceLT,bU])|((first|apply aO|apply aQ|apply aK)<;>intro h<;>try simp only [h]))
    refine bR (bF (s':=⟨[(0,.ptr 0 0 []),(2,.ptr 3 0 []),(3,.ptr 6 0 [])],[.box (l8 cv k5 s5),.val (.sl false 1 (cQ code)),.tag 1 cv,.box zO,.val (.sl true 1 (dl iD [0,0,100,19980])),.dead,.box (Off.w { o with day:=m0 })]⟩) _ rfl ⟨⟨rfl,rfl⟩,⟨rfl,rfl⟩,⟨rfl,rfl⟩,trivial⟩) ?_
    exact rest.out (({ o with day:=m0 }:Off),k5,s5) ⟨hd,by simp only; omega,by simp only; omega⟩
   | false =>
    cases q1:decide (p=1) with
    | true =>
     repeat' (first|(simp only [q0,q1,aV,↓wA,↓wC,wB,aY,aW,reduceEqDiff,reduceAdd,reduceSub,reduceIte,reduceCtorEq,Nat.reduceBEq,reduceLT,bU])|((first|apply aO|apply aQ|apply aK)<;>intro h<;>try simp only [h]))
     refine dQ _ (eA 6 none [1] (es:=4) (xs:=dl Cs.s o.cs) rfl rfl) fun v=>?_
     simp only [cX,aL0,List.length_cons,List.length_nil,Nat.reduceAdd,List.set_cons_succ,List.set_cons_zero,List.cons_append,List.nil_append,mH,kW,eK,List.any_cons,List.any_nil]
     refine aOw (fun s=>∃ (o':Off) (k':Nat) (s':Int),sX o'/\k<=k'/\k'<=k + 3000/\eN s ⟨[(0,.ptr 0 0 []),(2,.ptr 3 0 []),(3,.ptr 6 0 [])],[.box (l8 cv k' s'),.val (.sl false 1 (cQ code)),.tag 1 cv,.box zO,.val (.sl true 1 (dl iD [0,0,100,19980])),.dead,.box o'.w]⟩) ?_ ?_
     ·apply aQX (fun x:(Int×Int×Int×Int)×Nat×Int=>(⟨[(41,.ptr 6 1 [1]),(3,.ptr 6 0 []),(53,.d (.int .i64 x.1.2.2.2)),(0,.ptr 0 0 []),(2,.ptr 3 0 []),(42,.own 7),(45,.d (.int .i64 x.1.1)),(47,.d (.int .i64 x.1.2.1)),(50,.d (.int .i64 x.1.2.2.1)),(51,.ptr 0 0 []),(52,.d (.sl false 1 (dl iD [0,1,10])))],[.box (l8 cv x.2.1 x.2.2),.val (.sl false 1 (cQ code)),.tag 1 cv,.box zO,.val (.sl true 1 (dl iD [0,0,100,19980])),.dead,.box (cG o (.lnk 8 v) (.sl true 1 (dl D.str o.led))),.val (.sl true 4 (dl Cs.s o.cs)),.tag 7 v]⟩:St)) (fun x=>(0<=x.1.1/\x.1.1<=1000)/\(0<=x.1.2.2.2/\x.1.2.2.2<=1000)/\k<=x.2.1/\x.2.1<=k + 2900)
      case a =>
       intro rest
       repeat' (first
        |(with_reducible refine aN8 ?_ ?_)
        |(with_reducible refine aQQ fun k hk=>?_)
        |(with_reducible refine aPf fun k hk=>?_)
        |(with_reducible refine aOl fun k hk=>?_)
        |(simp only [aCO,aDo,aDj,D.size,bB,aV,↓wA,↓wC,wB,aY,aW,reduceEqDiff,reduceAdd,reduceSub,reduceIte,reduceCtorEq,Nat.reduceBEq,reduceLT,bU])
        |(with_reducible refine And.intro ?_ ?_)
        |((with_reducible show jZ prog _ _ [.t 43,.t 44] _ _); refine mQ _ (tH [0,2,3,41,42,43,44,45,46,47,48,49,50,51,52,53] _) (fun _=>?_); simp only [↓wA,↓wC,wB,aY,aW,reduceEqDiff,reduceAdd,reduceSub,reduceIte,reduceCtorEq,Nat.reduceBEq,reduceLT,bU]; refine cE (dM code cv _ _ [0,1,999] hc (by omega) (by simp) (by simp)) rfl rfl rfl (cF code cv rfl rfl) ?_; rintro _ _ ⟨a1,u1,z1,rfl,rfl,hu1,hu1',ha1⟩; refine ⟨⟨rfl,rfl⟩,?_⟩)
        |((with_reducible show jZ prog _ _ [.t 46,.k (.d (.int .i64 5))] _ _); refine mQ _ (tH [0,2,3,41,42,43,44,45,46,47,48,49,50,51,52,53] _) (fun _=>?_); simp only [↓wA,↓wC,wB,aY,aW,reduceEqDiff,reduceAdd,reduceSub,reduceIte,reduceCtorEq,Nat.reduceBEq,reduceLT,bU]; refine cE (kC code cv _ _ 5 hc (by omega)) rfl rfl rfl (cF code cv rfl rfl) ?_; rintro _ _ ⟨a2,u2,z2,rfl,rfl,hu2,hu2',ha2,ha2'⟩; refine ⟨⟨rfl,rfl⟩,?_⟩)
        |((with_reducible show jZ prog _ _ [.t 48,.t 49] _ _); refine mQ _ (tH [0,2,3,41,42,43,44,45,46,47,48,49,50,51,52,53] _) (fun _=>?_); simp only [↓wA,↓wC,wB,aY,aW,reduceEqDiff,reduceAdd,reduceSub,reduceIte,reduceCtorEq,Nat.reduceBEq,reduceLT,bU]; refine cE (dM code cv _ _ [0,20001] hc (by omega) (by simp) (by simp)) rfl rfl rfl (cF code cv rfl rfl) ?_; rintro _ _ ⟨a3,u3,z3,rfl,rfl,hu3,hu3',ha3⟩; refine ⟨⟨rfl,rfl⟩,?_⟩)
        |((with_reducible show jZ prog _ _ [.t 51,.t 52] _ _); (first|(refine dW 9 ?_; simp only [lA,jX,iZ,D.unown,↓wA,↓wC,wB,aY,aW,reduceEqDiff,reduceAdd,reduceSub,reduceIte,reduceCtorEq,Nat.reduceBEq,reduceLT,bU]; refine mQ _ (bF (s':=⟨[(0,.ptr 0 0 []),(2,.ptr 3 0 []),(42,.own 7),(45,.d (.int .i64 a1)),(47,.d (.int .i64 a2)),(50,.d (.int .i64 a3)),(51,.ptr 0 0 []),(52,.d (.sl false 1 (dl iD [0,1,10])))],[.box (l8 cv u3 z3),.val (.sl false 1 (cQ code)),.tag 1 cv,.box zO,.val (.sl true 1 (dl iD [0,0,100,19980])),.dead,.dead,.val (.sl true 4 (dl Cs.s o.cs)),.tag 7 v]⟩) _ rfl ⟨⟨rfl,rfl⟩,⟨rfl,rfl⟩,⟨rfl,rfl⟩,⟨rfl,rfl⟩,⟨rfl,rfl⟩,⟨rfl,rfl⟩,⟨rfl,rfl⟩,⟨rfl,rfl⟩,trivial⟩).x (fun _=>?_))|(refine dW 10 ?_; simp only [lA,jX,iZ,D.unown,↓wA,↓wC,wB,aY,aW,reduceEqDiff,reduceAdd,reduceSub,reduceIte,reduceCtorEq,Nat.reduceBEq,reduceLT,bU]; refine mQ _ (bF (s':=⟨[(0,.ptr 0 0 []),(2,.ptr 3 0 []),(42,.own 7),(45,.d (.int .i64 a1)),(47,.d (.int .i64 a2)),(50,.d (.int .i64 a3)),(51,.ptr 0 0 []),(52,.d (.sl false 1 (dl iD [0,1,10])))],[.box (l8 cv u3 z3),.val (.sl false 1 (cQ code)),.tag 1 cv,.box zO,.val (.sl true 1 (dl iD [0,0,100,19980])),.dead,.dead,.val (.sl true 4 (dl Cs.s o.cs)),.tag 7 v]⟩) _ rfl ⟨⟨rfl,rfl⟩,⟨rfl,rfl⟩,⟨rfl,rfl⟩,⟨rfl,rfl⟩,⟨rfl,rfl⟩,⟨rfl,rfl⟩,⟨rfl,rfl⟩,⟨rfl,rfl⟩,trivial⟩).x (fun _=>?_))|(refine dW 11 ?_; simp only [lA,jX,iZ,D.unown,↓wA,↓wC,wB,aY,aW,reduceEqDiff,reduceAdd,reduceSub,reduceIte,reduceCtorEq,Nat.reduceBEq,reduceLT,bU]; refine mQ _ (bF (s':=⟨[(0,.ptr 0 0 []),(2,.ptr 3 0 []),(42,.own 7),(45,.d (.int .i64 a1)),(47,.d (.int .i64 a2)),(50,.d (.int .i64 a3)),(51,.ptr 0 0 []),(52,.d (.sl false 1 (dl iD [0,1,10])))],[.box (l8 cv u3 z3),.val (.sl false 1 (cQ code)),.tag 1 cv,.box zO,.val (.sl true 1 (dl iD [0,0,100,19980])),.dead,.dead,.val (.sl true 4 (dl Cs.s o.cs)),.tag 7 v]⟩) _ rfl ⟨⟨rfl,rfl⟩,⟨rfl,rfl⟩,⟨rfl,rfl⟩,⟨rfl,rfl⟩,⟨rfl,rfl⟩,⟨rfl,rfl⟩,⟨rfl,rfl⟩,⟨rfl,rfl⟩,trivial⟩).x (fun _=>?_))); simp only [↓wA,↓wC,wB,aY,aW,reduceEqDiff,reduceAdd,reduceSub,reduceIte,reduceCtorEq,Nat.reduceBEq,reduceLT,bU]; refine cE (dM code cv _ _ [0,1,10] hc (by omega) (by simp) (by simp)) rfl rfl rfl (cF code cv rfl rfl) ?_; rintro _ _ ⟨a4,u4,z4,rfl,rfl,hu4,hu4',ha4⟩; refine ⟨⟨rfl,rfl⟩,?_⟩)
        |(exact rest.out _ ‹_› ((a1,a2,a3,a4),u4,z4) ⟨lE (a:=0) (b:=1000) ha1 (by decide),lE (a:=0) (b:=1000) ha4 (by decide),by simp only; omega,by simp only; omega⟩)
        |(with_reducible show d4 _ _ _ _ _ _; subst hk))
      case b =>
       rintro ⟨⟨a1,a2,a3,a4⟩,u4,z4⟩ ⟨b1,b4,hu4,hu4'⟩
       simp only at b1 b4 hu4 hu4' ⊢
       have hcl:(o.cs.length:Int)<=10:=by have:=hd.1; omega
       repeat' (first|(simp only [aCO,aDo,aDj,D.size,bB,a7,aV,↓wA,↓wC,wB,aY,aW,reduceEqDiff,reduceAdd,reduceSub,reduceIte,reduceCtorEq,Nat.reduceBEq,reduceLT,bU])|(with_reducible refine And.intro ?_ ?_)|(with_reducible refine bK ?_ ?_; focus (intro h; cases h))|(with_reducible refine bK ?_ ?_; focus omega)|((first|apply aO|apply aQ|apply aK)<;>intro h<;>try simp only [h]))
       have h2:sX { o with cs:=o.cs ++ [⟨a1,a2,a3,[a4]⟩] }:=aG5 i1 b1 ⟨by simp,fun n hn=>by rw [List.mem_singleton.1 hn]; exact b4⟩
       refine bK (fun h=>by cases h) (bK ⟨by omega,by omega⟩ ⟨_,u4,z4,h2,by omega,by omega,?_⟩)
       exact aF6 (x:=⟨a1,a2,a3,[a4]⟩) (e:=[]) rfl rfl
     ·rintro s ⟨o',k',s',hd',hk',hk'',hw⟩
      refine ⟨_,hw,?_⟩
      refine bR (bF (s':=⟨[(0,.ptr 0 0 []),(2,.ptr 3 0 []),(3,.ptr 6 0 [])],[.box (l8 cv k' s'),.val (.sl false 1 (cQ code)),.tag 1 cv,.box zO,.val (.sl true 1 (dl iD [0,0,100,19980])),.dead,.box o'.w]⟩) _ rfl ⟨⟨rfl,rfl⟩,⟨rfl,rfl⟩,⟨rfl,rfl⟩,trivial⟩) ?_
      exact rest.out (o',k',s') ⟨hd',hk',hk''⟩
    | false =>
     cases q2:decide (p=2) with
     | true =>
      repeat' (first|(simp only [q0,q1,q2,aV,↓wA,↓wC,wB,aY,aW,reduceEqDiff,reduceAdd,reduceSub,reduceIte,reduceCtorEq,Nat.reduceBEq,reduceLT,bU])|((first|apply aO|apply aQ|apply aK)<;>intro h<;>try simp only [h]))
      obtain ⟨_,_,_,_,_,_,_,hl8,hs8,_⟩:=dG i1
      refine dZ (fun x:List (List UInt8)×Nat×Int=>⟨[(0,.ptr 0 0 []),(2,.ptr 3 0 []),(3,.ptr 6 0 [])],[.box (l8 cv x.2.1 x.2.2),.val (.sl false 1 (cQ code)),.tag 1 cv,.box zO,.val (.sl true 1 (dl iD [0,0,100,19980])),.dead,.box (Off.w { o with led:=x.1 })]⟩)
       (fun x=>x.1.length<=12/\(∀ s∈x.1,s.length<=1000)/\k4<=x.2.1/\(x.2.1:Int) + 2 * (20 - x.1.length)<=k4 + 100) (fun x=>100 - x.1.length) (o.led,k4,s4) (bF _ rfl ⟨⟨rfl,rfl⟩,⟨rfl,rfl⟩,⟨rfl,rfl⟩,trivial⟩) ⟨by simp only; omega,fun s hs=>by have:=hs8 s hs; omega,by simp only; omega,by simp only; omega⟩ ?_
      rintro ⟨L,k5,s5⟩ ⟨j1,j2,j3,j4⟩
      simp only at j1 j2 j3 j4 ⊢
      refine dQ _ (eA 6 none [4] (es:=1) (xs:=dl D.str L) rfl rfl) fun v=>?_
      simp only [cX,aKJ,↓wA,↓wC,wB,aY,aW,reduceEqDiff,reduceAdd,reduceSub,reduceIte,reduceCtorEq,Nat.reduceBEq,reduceLT,bU]
      repeat' (first|(simp only [aHQ,aHo,aH9,a7,D.size,bE,aV,↓wA,↓wC,wB,aY,aW,reduceEqDiff,reduceAdd,reduceSub,reduceIte,reduceCtorEq,Nat.reduceBEq,reduceLT,bU])|(with_reducible refine And.intro ?_ ?_)|(refine cE (kC code cv _ _ 2 hc (by omega)) rfl rfl rfl (cF code cv rfl rfl) ?_; rintro _ _ ⟨a2,u2,z2,rfl,rfl,hu2,hu2',ha2,ha2'⟩; refine ⟨⟨rfl,rfl⟩,?_⟩)|(refine cT ?_)|(with_reducible refine bK ?_ ?_; focus (intro h; cases h))|(with_reducible refine bK ?_ ?_; focus (simp only [List.length_cons,List.length_nil]; omega))|(with_reducible refine bA ?_ ?_; focus (simp only [cV]; omega))|((first|apply aO|apply aQ|apply aK)<;>intro h<;>try simp only [h]))
      ·have hl8':=of_decide_eq_true h
       have happ:(dl D.str L).app (D.cons (D.str [114,49,32,100,53]) .nil)=dl D.str (L ++ [[114,49,32,100,53]]):=iG (f:=D.str) L _
       rw [happ]
       refine bK (fun h=>by cases h) (bK ⟨by omega,by omega⟩ ⟨(L ++ [[114,49,32,100,53]],u2,z2),(bF _ rfl ⟨⟨rfl,rfl⟩,⟨rfl,rfl⟩,⟨rfl,rfl⟩,trivial⟩),⟨by simp only [List.length_append,List.length_singleton]; omega,fun s hs=>?_,by simp only; omega,by simp only [List.length_append,List.length_singleton]; omega⟩,by simp only [List.length_append,List.length_singleton]; omega⟩)
       rcases List.mem_append.1 hs with hs|hs
       ·exact j2 s hs
       ·rw [List.mem_singleton.1 hs]; decide
      ·refine bR ((jQ 6 8 7 none [4] (ow:=true) (es:=1) (xs:=dl D.str L) (ob':=.box (Off.w { o with led:=L })) rfl rfl rfl rfl (by decide) rfl).trans (bF (s':=⟨[(0,.ptr 0 0 []),(2,.ptr 3 0 []),(3,.ptr 6 0 [])],[.box (l8 cv u2 z2),.val (.sl false 1 (cQ code)),.tag 1 cv,.box zO,.val (.sl true 1 (dl iD [0,0,100,19980])),.dead,.box (Off.w { o with led:=L })]⟩) _ rfl ⟨⟨rfl,rfl⟩,⟨rfl,rfl⟩,⟨rfl,rfl⟩,trivial⟩)) ?_
       exact rest.out (({ o with led:=L }:Off),u2,z2) ⟨⟨hd.1,hd.2.1,by simp only; omega,j2⟩,by simp only; omega,by simp only; omega⟩
     | false =>
      cases q3:decide (p=3) with
      | true =>
       repeat' (first|(simp only [q0,q1,q2,q3,aV,↓wA,↓wC,wB,aY,aW,reduceEqDiff,reduceAdd,reduceSub,reduceIte,reduceCtorEq,Nat.reduceBEq,reduceLT,bU])|((first|apply aO|apply aQ|apply aK)<;>intro h<;>try simp only [h]))
       refine cE (dM code cv _ _ [-1,999,1000] hc (by omega) (by simp) (by simp)) rfl rfl rfl (cF code cv rfl rfl) ?_
       rintro _ _ ⟨m0,k5,s5,rfl,rfl,hk5,hk5',hmm0⟩
       refine ⟨⟨rfl,rfl⟩,?_⟩
       repeat' (first|(simp only [aKq,aKu,aKV,D.size,aV,↓wA,↓wC,wB,aY,aW,reduceEqDiff,reduceAdd,reduceSub,reduceIte,reduceCtorEq,Nat.reduceBEq,reduceLT,bU])|((first|apply aO|apply aQ|apply aK)<;>intro h<;>try simp only [h]))
       refine bR (bF (s':=⟨[(0,.ptr 0 0 []),(2,.ptr 3 0 []),(3,.ptr 6 0 [])],[.box (l8 cv k5 s5),.val (.sl false 1 (cQ code)),.tag 1 cv,.box zO,.val (.sl true 1 (dl iD [0,0,100,19980])),.dead,.box (Off.w { o with kept:=m0 })]⟩) _ rfl ⟨⟨rfl,rfl⟩,⟨rfl,rfl⟩,⟨rfl,rfl⟩,trivial⟩) ?_
       exact rest.out (({ o with kept:=m0 }:Off),k5,s5) ⟨hd,by simp only; omega,by simp only; omega⟩
      | false =>
       repeat' (first|(simp only [q0,q1,q2,q3,aV,↓wA,↓wC,wB,aY,aW,reduceEqDiff,reduceAdd,reduceSub,reduceIte,reduceCtorEq,Nat.reduceBEq,reduceLT,bU])|((first|apply aO|apply aQ|apply aK)<;>intro h<;>try simp only [h]))
       refine bR (bF (s':=⟨[(0,.ptr 0 0 []),(2,.ptr 3 0 []),(3,.ptr 6 0 [])],[.box (l8 cv k4 s4),.val (.sl false 1 (cQ code)),.tag 1 cv,.box zO,.val (.sl true 1 (dl iD [0,0,100,19980])),.dead,.box o.w]⟩) _ rfl ⟨⟨rfl,rfl⟩,⟨rfl,rfl⟩,⟨rfl,rfl⟩,trivial⟩) ?_
       exact rest.out (o,k4,s4) ⟨hd,by simp only; omega,by simp only; omega⟩
  case b =>
   rintro ⟨o',k',s'⟩ ⟨hd',hk',hk''⟩
   simp only at hd' hk' hk'' ⊢
   repeat' (first|(simp only [aV,hst,hwB,hwS,hwV,Off.w_noOwn,↓wA,↓wC,wB,aY,aW,reduceEqDiff,reduceAdd,reduceSub,reduceIte,reduceCtorEq,Nat.reduceBEq,reduceLT,bU])|((first|apply aO|apply aQ|apply aK)<;>intro h<;>try simp only [h]))
   refine oA _ rfl (bK rfl (bK rfl ?_))
   refine bR ((jQ 0 2 1 none [0] (ob':=.box (.st (.cons (.sl false 1 (cQ code)) (.cons (.int .i64 k') (.cons (.int .u64 s') .nil))))) rfl rfl rfl rfl (by decide) rfl).trans (freeze 3 none [] (x:=o'.w) (ob':=.box o'.s) rfl rfl (by simp only [cX,Off.w_unown]; rfl))) ?_
   simp only [↓wA,↓wC,wB,aY,aW,reduceEqDiff,reduceAdd,reduceSub,reduceIte,reduceCtorEq,Nat.reduceBEq,reduceLT,bU]
   exact bK rfl (oA _ rfl ⟨o',k',s',rfl,rfl,by omega,by omega,hd'⟩)
 | true =>
  have h1':=of_decide_eq_true h1
  repeat' (first|(simp only [h1,aV,hst,hwB,hwS,hwV,Off.w_noOwn,↓wA,↓wC,wB,aY,aW,reduceEqDiff,reduceAdd,reduceSub,reduceIte,reduceCtorEq,Nat.reduceBEq,reduceLT,bU])|(refine cT ?_)|(with_reducible refine And.intro ?_ ?_)|(refine cE (zM code cv k3 s3 o hc (by omega) (aCf i1)) rfl (aND rfl) rfl (cF code cv rfl rfl) ?_; rintro _ _ ⟨t,k4,s4,rfl,rfl,hk4,hk4',ht⟩; refine ⟨⟨rfl,rfl⟩,?_⟩)|((first|apply aO|apply aQ|apply aK)<;>intro h<;>try simp only [h]))
  all_goals
   cases hb:lF o t.k t.i t.a t.v with
   | false =>
    have hF:=aIy (jA i1) hb
    repeat' (first|(simp only [aV,hst,hwB,hwS,hwV,Off.w_noOwn,↓wA,↓wC,wB,aY,aW,reduceEqDiff,reduceAdd,reduceSub,reduceIte,reduceCtorEq,Nat.reduceBEq,reduceLT,bU])|(refine aZ hF (aNG rfl) rfl ?_)|((first|apply aO|apply aQ|apply aK)<;>intro h<;>try simp only [h]))
    refine bA (by simp only [cV]; omega) ?_
    exact ⟨(o,n - 1,k4,s4),(bF _ rfl ⟨⟨rfl,rfl⟩,⟨rfl,rfl⟩,⟨rfl,rfl⟩,⟨rfl,rfl⟩,trivial⟩),⟨i1,by simp only; omega,by simp only; omega,by simp only; omega⟩,by simp only; omega⟩
   | true =>
    obtain ⟨q,hq,hF⟩:=aH7 (jA i1) hb
    repeat' (first|(simp only [aV,hst,hwB,hwS,hwV,Off.w_noOwn,vwE,vwS,↓wA,↓wC,wB,aY,aW,reduceEqDiff,reduceAdd,reduceSub,reduceIte,reduceCtorEq,Nat.reduceBEq,reduceLT,bU])|(with_reducible refine aZ hF rfl rfl ?_)|(refine mQ _ (aLK o 3 rfl rfl).x (fun _=>?_))|((first|apply aO|apply aQ|apply aK)<;>intro h<;>try simp only [h]))
    refine oA _ rfl (bK rfl (bK rfl (bA (by simp only [cV]; omega) ?_)))
    exact ⟨(q,n - 1,k4,s4),(bF _ rfl ⟨⟨rfl,rfl⟩,⟨rfl,rfl⟩,⟨rfl,rfl⟩,⟨rfl,rfl⟩,trivial⟩),⟨hq,by simp only; omega,by simp only; omega,by simp only; omega⟩,by simp only; omega⟩
end Go.Pe.Tryz
set_option maxRecDepth 100000
set_option maxHeartbeats 2000000
set_option linter.all false
namespace Go.Pe.Tryz
open Nat (reduceEqDiff reduceAdd reduceSub reduceLT)
open Go.Proofs.Tryz
theorem vA (code:List UInt8) (hc:code.length<=1048576):Fn prog 55 [.sl false 1 (cQ code)] (fun rs=>∃ o:Off,rs=[o.s]/\sX o):=by
 refine bV (fn:=f55) (by exact func55) c55 r55 (n:=9) (by rfl) (rv:=[.cell 2 27]) (by rfl) (by simp) ?_
 unfold m55
 try simp only [wQ]
 repeat' (first|(simp only [aV,fS,↓wA,↓wC,wB,aY,aW,reduceEqDiff,reduceAdd,reduceSub,reduceIte,reduceCtorEq,Nat.reduceBEq,reduceLT,bU])|((first|apply aO|apply aQ|apply aK)<;>intro h<;>try simp only [h]))
 refine dF (vJ code 0 0 hc (by omega)) rfl rfl rfl ?_
 rintro _ _ ⟨o,k1,s1,rfl,rfl,hk1,hk1',hd⟩
 repeat' (first|(simp only [Off.s_noOwn,Off.s_isV,Off.s_size,aV,↓wA,↓wC,wB,aY,aW,reduceEqDiff,reduceAdd,reduceSub,reduceIte,reduceCtorEq,Nat.reduceBEq,reduceLT,bU])|((first|apply aO|apply aQ|apply aK)<;>intro h<;>try simp only [h]))
 exact bK rfl (oA _ rfl ⟨o,rfl,hd⟩)
end Go.Pe.Tryz
set_option maxRecDepth 100000
set_option maxHeartbeats 2000000
set_option linter.all false
namespace Go.Pe.Tryz
open Nat (reduceEqDiff reduceAdd reduceSub reduceLT)
open Go.Proofs.Tryz
end Go.Pe.Tryz
set_option maxRecDepth 100000
set_option maxHeartbeats 4000000
set_option linter.all false
namespace Go.Pe.Tryz
open Nat (reduceEqDiff reduceAdd reduceSub reduceLT)
open Go.Proofs.Tryz
theorem aQp {G:Prop} (T:Prop) (m:Held T->G) (r:T):G:=m ⟨r⟩
theorem iH {x:Off} {K:SV->Prop}:bY 2 2 (.d (.ptr x.s)) K=K (.d (.ptr (.int .i64 x.kept))):=by simp [Off.s,cG,bY,D.pre,D.nth,D.size]
theorem g9 {x:Off} {K:SV->Prop}:bY 3 3 (.d (.ptr x.s)) K=K (.d (.ptr (.int .i64 x.moved))):=by simp [Off.s,cG,bY,D.pre,D.nth,D.size]
theorem iE {x:Off} {K:SV->Prop}:bY 1 1 (.d (.ptr x.s)) K=K (.d (.ptr (.sl false 4 (dl Cs.s x.cs)))):=by simp [Off.s,cG,bY,D.pre,D.nth,D.size]
theorem g8 {x:Off} {K:SV->Prop}:bY 4 4 (.d (.ptr x.s)) K=K (.d (.ptr (.sl false 1 (dl D.str x.led)))):=by simp [Off.s,cG,bY,D.pre,D.nth,D.size]
theorem gY {x:Stp} {K:SV->Prop}:bY 0 0 (.d (.ptr x.d)) K=K (.d (.ptr (.int .i64 x.k))):=by simp [Stp.d,lG,bY,D.pre,D.nth,D.size]
theorem iF {x:Stp} {K:SV->Prop}:bY 1 1 (.d (.ptr x.d)) K=K (.d (.ptr (.int .i64 x.i))):=by simp [Stp.d,lG,bY,D.pre,D.nth,D.size]
theorem uT (o:Off) (s:Stp) (ho:o.ok0):Fn prog 7 [o.s,s.d] (fun rs=>rs=[(nI o s.k s.i s.a s.v).s,.bool (lF o s.k s.i s.a s.v)]):=by
 simpa [D.unown,Off.o_unown,Stp.d] using iV (aB8 o s.k s.i s.a s.v ho)
theorem aKU (x:D) (h:kD (.int .u8) x):∃ b:UInt8,x=.int .u8 (b.toNat:Int)/\True:=by
 obtain ⟨n,rfl,hn⟩:=h
 have hr:0<=n/\n<=255:=by
  simp only [Lit.wf,Bool.and_eq_true,decide_eq_true_eq] at hn
  exact hn
 refine ⟨UInt8.ofNat n.toNat,?_,trivial⟩
 have:(UInt8.ofNat n.toNat).toNat=n.toNat:=by
  rw [UInt8.toNat_ofNat']
  omega
 rw [this,Int.toNat_of_nonneg hr.1]
theorem aHD (x:D) (h:kD (.sl 1 (.int .u8)) x):∃ code:List UInt8,x=.sl false 1 (cQ code):=by
 obtain ⟨ds,rfl,h1,h2⟩:=h
 obtain ⟨ys,h3,_,_⟩:=aAf (f:=fun b:UInt8=>D.int .u8 (b.toNat:Int)) (P:=fun _=>True) aKU ds h2
 exact ⟨ys,by rw [h3,aHe]⟩
end Go.Pe.Tryz
set_option maxRecDepth 100000
set_option maxHeartbeats 4000000
set_option linter.all false
namespace Go.Pe.Tryz
open Nat (reduceEqDiff reduceAdd reduceSub reduceLT)
open Go.Proofs.Tryz
theorem oT:maxLen=9223372036854775807:=rfl
end Go.Pe.Tryz
set_option maxRecDepth 100000
set_option maxHeartbeats 4000000
set_option linter.all false
namespace Go.Pe.Tryz
open Nat (reduceEqDiff reduceAdd reduceSub reduceLT)
open Go.Proofs.Tryz
end Go.Pe.Tryz
set_option maxRecDepth 100000
set_option maxHeartbeats 4000000
set_option linter.all false
namespace Go.Pe.Tryz
open Nat (reduceEqDiff reduceAdd reduceSub reduceLT)
def aAz (x:UInt8) (s:List UInt8):List UInt8:=s.takeWhile (· != x)
def after (x:UInt8) (s:List UInt8):List UInt8:=(s.dropWhile (· != x)).drop 1
def ckf (h:Int) (b:UInt8):Int:=(41 * h + (b.toNat:Int) + 1) % 999979
def ck (s:List UInt8):Int:=s.foldl ckf 7
theorem aFS (s:List UInt8):0<=ck s/\ck s < 999979:=by
 unfold ck
 have:∀ (s:List UInt8) (h:Int),0<=h/\h < 999979->0<=s.foldl ckf h/\s.foldl ckf h < 999979:=by
  intro s
  induction s with
  | nil=>intro h hh; exact hh
  | cons b s ih =>
   intro h hh
   refine ih _ ?_
   unfold ckf
   omega
 exact this s 7 (by omega)
def body (k:Int) (c r:List UInt8):List UInt8:=Lib.itoa k ++ 32 :: (c ++ 64 :: r)
end Go.Pe.Tryz
set_option maxRecDepth 100000
set_option maxHeartbeats 4000000
set_option linter.all false
namespace Go.Pe.Tryz
open Nat (reduceEqDiff reduceAdd reduceSub reduceLT)
open Go.Proofs.Tryz Go.Sort
theorem aD2 (s:List UInt8) (hl:s.length<=maxLen):Fn prog 152 [.str s] (fun rs=>rs=[.int .i64 (ck s)]):=by
 rw [oT] at hl
 refine bV (fn:=f152) (by exact func152) aR1 aRK (n:=21) (by rfl) (rv:=[.tmp 2]) (by rfl) (by simp) ?_
 unfold aN2
 try simp only [wQ]
 simp only [↓wA,↓wC,wB,aY,aW,reduceEqDiff,reduceAdd,reduceSub,reduceIte,reduceCtorEq,Nat.reduceBEq,reduceLT]
 refine dZ (fun i:Nat=>⟨[(0,.d (.str s)),(3,.d (.int .i64 (ck (s.take i)))),(6,.d (.int .i64 s.length)),(7,.d (.int .i64 i))],[]⟩)
  (fun i=>i<=s.length) (fun i=>s.length - i) 0 (bF [] rfl ⟨⟨rfl,rfl⟩,⟨rfl,rfl⟩,⟨rfl,rfl⟩,⟨rfl,rfl⟩,trivial⟩) (Nat.zero_le _) ?_
 rintro i hi
 by_cases hlt:i < s.length
 ·obtain ⟨b,hb⟩:=cK hlt
  have hd:decide ((i:Int) < (s.length:Int))=true:=decide_eq_true (by omega)
  have h0:(0:Int)<=(i:Int):=by omega
  have hbl:(b.toNat:Int) < 256:=by have:=b.toNat_lt; omega
  have hck:=aFS (s.take i)
  have hne:decide ((999979:Int)=0)=false:=by decide
  have hstep:ck (s.take (i + 1))=(41 * ck (s.take i) + b.toNat + 1) % 999979:=by
   have hi:=bC hb
   rw [List.take_succ_eq_append_getElem hi]
   have:s[i]=b:=by rw [List.getElem?_eq_getElem hi] at hb; injection hb
   unfold ck
   rw [List.foldl_append,this]; rfl
  have htm:(41 * ck (s.take i) + b.toNat + 1).tmod 999979=ck (s.take (i + 1)):=by rw [hstep,Int.tmod_eq_emod_of_nonneg (by omega)]
  have h99:(999979:Int)≠0:=by decide
  repeat' (first|(simp only [hd,h0,hb,Int.toNat_natCast,aV,htm,h99,ne_eq,not_false_eq_true,↓wA,↓wC,wB,aY,aW,reduceEqDiff,reduceAdd,reduceSub,reduceIte,reduceCtorEq,Nat.reduceBEq,reduceLT])|(refine bK (by decide) ?_)|(refine bA (by simp only [cV]; omega) ?_)|((first|apply aO|apply aQ|apply aK)<;>intro h<;>try simp only [h]))
  all_goals exact ⟨i + 1,bF [] rfl ⟨⟨rfl,rfl⟩,⟨rfl,rfl⟩,⟨rfl,rfl⟩,⟨rfl,rfl⟩,trivial⟩,by omega,by omega⟩
 ·have hd:decide ((i:Int) < (s.length:Int))=false:=decide_eq_false (by omega)
  simp only [hd,↓wA,↓wC,wB,aY,aW,reduceEqDiff,reduceAdd,reduceSub,reduceIte,reduceCtorEq,Nat.reduceBEq,reduceLT]
  rw [List.take_of_length_le (by omega)]
theorem aCF (s:List UInt8) (hl:s.length<=maxLen):Fn prog 131 [.str s] (fun rs=>rs=[.int .i64 (ck s)]):=by
 rw [oT] at hl
 refine bV (fn:=f131) (by exact func131) aSQ aRE (n:=21) (by rfl) (rv:=[.tmp 2]) (by rfl) (by simp) ?_
 unfold aOP
 try simp only [wQ]
 simp only [↓wA,↓wC,wB,aY,aW,reduceEqDiff,reduceAdd,reduceSub,reduceIte,reduceCtorEq,Nat.reduceBEq,reduceLT]
 refine dZ (fun i:Nat=>⟨[(0,.d (.str s)),(3,.d (.int .i64 (ck (s.take i)))),(4,.d (.int .i64 i))],[]⟩)
  (fun i=>i<=s.length) (fun i=>s.length - i) 0 (bF [] rfl ⟨⟨rfl,rfl⟩,⟨rfl,rfl⟩,⟨rfl,rfl⟩,trivial⟩) (Nat.zero_le _) ?_
 rintro i hi
 by_cases hlt:i < s.length
 ·obtain ⟨b,hb⟩:=cK hlt
  have hd:decide ((i:Int) < (s.length:Int))=true:=decide_eq_true (by omega)
  have h0:(0:Int)<=(i:Int):=by omega
  have hbl:(b.toNat:Int) < 256:=by have:=b.toNat_lt; omega
  have hck:=aFS (s.take i)
  have hstep:ck (s.take (i + 1))=(41 * ck (s.take i) + b.toNat + 1) % 999979:=by
   have hi:=bC hb
   rw [List.take_succ_eq_append_getElem hi]
   have:s[i]=b:=by rw [List.getElem?_eq_getElem hi] at hb; injection hb
   unfold ck
   rw [List.foldl_append,this]; rfl
  have htm:(41 * ck (s.take i) + b.toNat + 1).tmod 999979=ck (s.take (i + 1)):=by rw [hstep,Int.tmod_eq_emod_of_nonneg (by omega)]
  have h99:(999979:Int)≠0:=by decide
  repeat' (first|(simp only [hd,h0,hb,Int.toNat_natCast,aV,htm,h99,ne_eq,not_false_eq_true,↓wA,↓wC,wB,aY,aW,reduceEqDiff,reduceAdd,reduceSub,reduceIte,reduceCtorEq,Nat.reduceBEq,reduceLT])|(refine bK (by decide) ?_)|(refine bA (by simp only [cV]; omega) ?_)|((first|apply aO|apply aQ|apply aK)<;>intro h<;>try simp only [h]))
  all_goals exact ⟨i + 1,bF [] rfl ⟨⟨rfl,rfl⟩,⟨rfl,rfl⟩,⟨rfl,rfl⟩,trivial⟩,by omega,by omega⟩
 ·have hd:decide ((i:Int) < (s.length:Int))=false:=decide_eq_false (by omega)
  simp only [hd,↓wA,↓wC,wB,aY,aW,reduceEqDiff,reduceAdd,reduceSub,reduceIte,reduceCtorEq,Nat.reduceBEq,reduceLT]
  rw [List.take_of_length_le (by omega)]
end Go.Pe.Tryz
