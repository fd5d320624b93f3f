/- Numbers read out of texts, texts split at blanks, lists of numbers as texts, as a console has them: walked; A command's step and its reply: the program's stepFor and replyOf, walked; A command's reply: the program's replyOf, walked; What a command does to an office: the program's answer, walked; The program's ExecuteCommand, walked; The reference's commands: steps and words, walked; The reference's ExecuteCommand, walked; The reference's ExecuteCommand, walked: the whole; The reference's ExecuteCommand, walked: the whole; The replay of a log: both roads, walked, and the law of ReplayLog; The law of ReplayLog, walked; Marks on consoles; The law of ExecuteCommand; RunScript, walked; The law of RunScript -/
import Derived.Test.YtjmobminbckhjaaGreatDoorW5
import Derived.Test.YtjmobminbckhjaaGreatDoorShelf
import Derived.Test.YtjmobminbckhjaaGreatDoorPeD
import Derived.Test.YtjmobminbckhjaaGreatDoorMc1
import Derived.Test.YtjmobminbckhjaaGreatDoorMc2
import Derived.Test.YtjmobminbckhjaaGreatDoorMc3
import Derived.Test.YtjmobminbckhjaaGreatDoorMc4
import Derived.Test.YtjmobminbckhjaaGreatDoorMc5
import Derived.Test.YtjmobminbckhjaaGreatDoorMc6
import Derived.Test.YtjmobminbckhjaaGreatDoorMc7
import Derived.Test.YtjmobminbckhjaaGreatDoorMc8
import Derived.Handy
set_option maxRecDepth 100000
set_option maxHeartbeats 4000000
set_option linter.all false
open And renaming intro->aF
open Bool renaming and_eq_true->aL
open Int renaming reduceToNat->aE, toNat_zero->aG, toNat_natCast->aT
open List renaming length_cons->aC, length_nil->aD, mem_of_getElem?->aH, length_take->aM, take_of_length_le->aN, cons_append->aO, mem_cons_of_mem->aP, mem_cons_self->aQ, mem_singleton->aR, length_append->aS, extract_eq_take_drop->aU, length_drop->aV, mem_map->aW, length_eq_zero_iff->aX, length_map->aY, nil_append->a6, nodup_nil->a8, map_cons->bA, mem_cons->bB, length_pos_iff->bC, append_assoc->bD, take_length->bE, mem_append->bG
open Nat renaming reduceBEq->aA, le_refl->aJ, min_eq_left->aZ, reduceEqDiff->bJ, reduceAdd->bK, reduceSub->bL, reduceLT->bM
open Option renaming map_some->aB, getD_some->aI, isSome_some->aK, map_eq_some_iff->a7, getD_none->bF, map_map->bH
namespace Go.Pe.Tryz
open Go.Proofs.Tryz Go.Sort
theorem xT:∀ (l:List UInt8) (acc:Nat),l.all mE=true->∃ m:Nat,Lib.decFrom acc l=some m/\(m:Int)=l.foldl (fun n b=>10 * n + ((b.toNat:Int) - 48)) (acc:Int)
 | [],acc,_=>⟨acc,rfl,rfl⟩
 | b :: r,acc,h=>by
  simp only [List.all_cons,aL] at h
  have hb:=h.1
  simp only [mE,aL,decide_eq_true_eq] at hb
  obtain ⟨m,h1,h2⟩:=xT r (acc * 10 + (b.toNat - 48)) h.2
  refine ⟨m,?_,?_⟩
  ·simp only [Lib.decFrom,Lib.digitVal,if_pos hb]; exact h1
  ·rw [h2,List.foldl_cons]
   congr 1; omega
theorem aBA (u:Nat):Lib.decNat (Lib.decDigits u)=some u:=by
 obtain ⟨m,h1,h2⟩:=xT (Lib.decDigits u) 0 (aFt u)
 have h3:=aCi u
 unfold tQ at h3
 have:m=u:=by
  have h4:(m:Int)=(u:Int):=h2.trans h3
  omega
 unfold Lib.decNat
 rw [if_neg (by simpa using mW u),h1,this]
theorem aAp {n:Int} (h0:-999999<=n) (h1:n<=999999):Lib.atoiAll (Lib.itoa n)=.ok n:=by
 by_cases hn:0<=n
 ·obtain ⟨u,rfl⟩:=Int.eq_ofNat_of_zero_le hn
  have hl:=yJ 5 u (by omega)
  rw [xV,Lib.atoiAll_short _ (by omega)]
  have hd:=aBA u
  have hb:=lR u
  cases hu:Lib.decDigits u with
  | nil=>exact absurd hu (mW u)
  | cons b r =>
   rw [hu] at hd hb
   have:=hb b aQ
   have e1:(b == 45)=false:=beq_eq_false_iff_ne.2 fun e=>by rw [e] at this; exact absurd this.1 (by decide)
   have e2:(b == 43)=false:=beq_eq_false_iff_ne.2 fun e=>by rw [e] at this; exact absurd this.1 (by decide)
   simp only [Lib.atoi,e1,e2,hd]
   rfl
 ·obtain ⟨u,rfl⟩:∃ u:Nat,n=-(u:Int):=⟨n.natAbs,by omega⟩
  have hl:=yJ 5 u (by omega)
  rw [yA u (by omega),Lib.atoiAll_short _ (by simp; omega)]
  simp only [Lib.atoi,aBA u]
  rfl
theorem aKj (s:List UInt8) (v:Int) (hl:s.length<=1000000000) (h:Lib.atoiAll s=.ok v):Fn prog 105 [.str s] (fun rs=>rs=[.int .i64 v,.err true]):=by
 intro M vs w hM hG hv
 obtain ⟨cs,us,f1,f2,rfl,hf,⟨rfl,rfl⟩,rfl,rfl⟩:=hv
 refine Calls.mono (Go.Proofs.Tryz.strconv_Atoi_ok ⟨s.toArray⟩ (by show s.toArray.size<=_; simp; omega) v (by simpa using h) w) ?_
 rintro e w' ⟨rfl,hw⟩
 refine ⟨_,[.int .i64 v,.nilIface],[],rfl,rfl,⟨[.int .i64 v],[.nilIface],[],[],rfl,rfl,⟨rfl,rfl⟩,[.nilIface],[],[],[],rfl,rfl,⟨rfl,rfl⟩,rfl,rfl⟩,a8,(fun b hb=>by cases hb),?_⟩
 rcases hw with rfl|⟨t,rfl⟩
 ·exact lK.refl _
 ·exact Lib.bytesWorld_below w _ t
theorem aIm (s:List UInt8) (hl:s.length<=1000000000) (h:∀ v,Lib.atoiAll s≠.ok v):Fn prog 105 [.str s] (fun rs=>∃ v,rs=[.int .i64 v,.err false]):=by
 intro M vs w hM hG hv
 obtain ⟨cs,us,f1,f2,rfl,hf,⟨rfl,rfl⟩,rfl,rfl⟩:=hv
 have hs:(⟨s.toArray⟩:ByteArray).size<=281474976710656:=by show s.toArray.size<=_; simp; omega
 have out:∀ (n:Int) (t:TypeId) (v:Value) (w':World),eU w' (fun b=>M b\/b∈([]:List Nat)) [.int .i64 n,.err false] [.int .i64 n,.iface t v] []:=fun n t v w' =>
  ⟨[.int .i64 n],[.iface t v],[],[],rfl,rfl,⟨rfl,rfl⟩,[.iface t v],[],[],[],rfl,rfl,⟨rfl,t,v,rfl⟩,rfl,rfl⟩
 cases ha:Lib.atoiAll s
 ·exact absurd ha (h _)
 ·obtain ⟨t,p,hv⟩:=aUJ hG.fact
  refine Calls.mono (Go.Proofs.Tryz.strconv_Atoi_syntax_var ⟨s.toArray⟩ hs (by simpa using ha) t p w hv) ?_
  rintro e w' ⟨N,rfl,_,_,hB⟩
  exact ⟨_,_,[],rfl,⟨_,rfl⟩,out _ _ _ w',a8,(fun b hb=>by cases hb),hB⟩
 ·obtain ⟨t,p,hv⟩:=aUl hG.fact
  refine Calls.mono (Go.Proofs.Tryz.strconv_Atoi_range_var ⟨s.toArray⟩ hs (by simpa using ha) t p w hv) ?_
  rintro e w' ⟨N,rfl,_,_,hB⟩
  exact ⟨_,_,[],rfl,⟨_,rfl⟩,out _ _ _ w',a8,(fun b hb=>by cases hb),hB⟩
theorem aGx (s:List UInt8) (hl:s.length<=1000000000):Fn prog 70 [.str s] (fun rs=>rs=rdR s):=by
 by_cases hx:∃ v,Lib.atoiAll s=.ok v
 ·obtain ⟨v,ha⟩:=hx
  have hA:=aKj s v hl ha
  have hb:=Lib.atoiAll_bounds ha
  have hW:=e8 v (-999999) 999999
  cases hw:dC v (-999999) 999999 with
  | false =>
   have e:kK s=none:=by
    cases hr:kK s with
    | none=>rfl
    | some n =>
     obtain ⟨h1,h2,h3⟩:=sQ hr
     rw [<- h1,aAp h2 h3] at ha
     injection ha with ha
     subst ha
     rw [jR h2 h3] at hw; cases hw
   unfold rdR
   rw [e]
   rw [hw] at hW
   refine cW aFR [] ?_
   dsimp only [aFR,cT,c7]
   repeat' (first|(simp only [cJ,↓wA,↓wC,wB,cL,cK,bJ,bK,bL,reduceIte,reduceCtorEq,aA,bM])|(refine cI (hA) rfl rfl ?_)|(refine cM (hA) rfl rfl ?_)|(refine cI (hW) rfl rfl ?_)|(refine cM (hW) rfl rfl ?_)|((first|apply cG|apply cH|apply cF)<;>intro h<;>try simp only [h]))
  | true =>
   have hwi:=kM.1 hw
   have hD:=fG v (by simp only [dX]; omega)
   rw [hw] at hW
   by_cases hs:Lib.itoa v=s
   ·have e:kK s=some v:=by rw [<- hs]; exact aIy hwi.1 hwi.2
    have hd:decide (Lib.itoa v=s)=true:=decide_eq_true hs
    unfold rdR
    rw [e]
    refine cW aFR [] ?_
    dsimp only [aFR,cT,c7]
    repeat' (first|(simp only [cJ,hd,↓wA,↓wC,wB,cL,cK,bJ,bK,bL,reduceIte,reduceCtorEq,aA,bM])|(refine cI (hA) rfl rfl ?_)|(refine cM (hA) rfl rfl ?_)|(refine cI (hW) rfl rfl ?_)|(refine cM (hW) rfl rfl ?_)|(refine cI (hD) rfl rfl ?_)|(refine cM (hD) rfl rfl ?_)|((first|apply cG|apply cH|apply cF)<;>intro h<;>try simp only [h]))
   ·have e:kK s=none:=by
     cases hr:kK s with
     | none=>rfl
     | some n =>
      obtain ⟨h1,h2,h3⟩:=sQ hr
      rw [<- h1,aAp h2 h3] at ha
      injection ha with ha
      subst ha
      exact absurd h1 hs
    have hd:decide (Lib.itoa v=s)=false:=decide_eq_false hs
    unfold rdR
    rw [e]
    refine cW aFR [] ?_
    dsimp only [aFR,cT,c7]
    repeat' (first|(simp only [cJ,hd,↓wA,↓wC,wB,cL,cK,bJ,bK,bL,reduceIte,reduceCtorEq,aA,bM])|(refine cI (hA) rfl rfl ?_)|(refine cM (hA) rfl rfl ?_)|(refine cI (hW) rfl rfl ?_)|(refine cM (hW) rfl rfl ?_)|(refine cI (hD) rfl rfl ?_)|(refine cM (hD) rfl rfl ?_)|((first|apply cG|apply cH|apply cF)<;>intro h<;>try simp only [h]))
 ·have hA:=aIm s hl (fun v e=>hx ⟨v,e⟩)
  have e:kK s=none:=by
   cases hr:kK s with
   | none=>rfl
   | some n =>
    obtain ⟨h1,h2,h3⟩:=sQ hr
    exact absurd ⟨n,by rw [<- h1]; exact aAp h2 h3⟩ hx
  unfold rdR
  rw [e]
  refine cW aFR [] ?_
  dsimp only [aFR,cT,c7]
  repeat' (first|(simp only [cJ,↓wA,↓wC,wB,bJ,reduceIte,reduceCtorEq])|((first|apply cG|apply cH|apply cF)<;>intro h<;>try simp only [h]))
  refine lN hA rfl fun rs h=>?_
  obtain ⟨v,rfl⟩:=h
  refine ⟨.inl rfl,?_⟩
  repeat' (first|(simp only [cJ,↓wA,↓wC,wB,cL,cK,bJ,bK,bL,reduceIte,reduceCtorEq,aA,bM])|((first|apply cG|apply cH|apply cF)<;>intro h<;>try simp only [h]))
theorem aA2 (s:List UInt8) (hl:s.length<=100000000):Fn prog 56 [.str s] (fun rs=>rs=rdR s):=by
 have hR:=aK3 s hl
 have e:∃ n b,rdR s=[.int .i64 n,.bool b]:=by
  unfold rdR
  split<;>exact ⟨_,_,rfl⟩
 obtain ⟨n,b,e⟩:=e
 rw [e] at hR ⊢
 refine cW aU0 [] ?_
 dsimp only [aU0,cT,c7]
 repeat' (first|(simp only [↓wA,↓wC,wB,cL,cK,bJ,bK,bL,reduceIte,reduceCtorEq,aA,bM])|(refine cI (hR) rfl rfl ?_)|(refine cM (hR) rfl rfl ?_)|((first|apply cG|apply cH|apply cF)<;>intro h<;>try simp only [h]))
theorem aKz {x:UInt8} {s w:List UInt8} (h:parts x s=[w]):w=s:=by
 have h1:x ∉ s:=(aDD x s).1 (by rw [h]; exact Nat.lt_succ_self 1)
 rw [aCx h1] at h
 injection h with h _
 exact h.symm
theorem yX (x:UInt8) (s:List UInt8):∀ w∈parts x s,w.length<=s.length:=by
 intro w hw
 unfold parts at hw
 rcases bG.1 hw with hw|hw
 ·have:∀ i,∀ u∈(zE x s i).1,u.length<=s.length:=by
   intro i
   induction i with
   | zero=>intro u hu; simp [zE] at hu
   | succ i ih =>
    intro u hu
    simp only [zE] at hu
    split at hu
    ·split at hu
     ·rcases bG.1 hu with hu|hu
      ·exact ih u hu
      ·rw [aR.1 hu,aV,aM]; omega
     ·exact ih u hu
    ·exact ih u hu
  exact this _ w hw
 ·rw [aR.1 hw,aV]; omega
theorem aHA (x:UInt8):∀ (k:Nat) (s:ByteArray),Lib.countB s ⟨#[x]⟩=k->(Lib.splitB ⟨#[x]⟩ 0 k s).map (·.data.toList)=parts x s.data.toList:=by
 intro k
 induction k with
 | zero =>
  intro s hk
  rcases Lib.indexB_cases s ⟨#[x]⟩ with h|⟨i,h,hle⟩
  ·have h':Lib.indexByte s.data.toList x=-1:=by rw [<- Lib.index_one]; exact h
   have hx:x ∉ s.data.toList:=fun hm=>by
    obtain ⟨j,hj⟩:=List.getElem?_of_mem hm
    exact Lib.indexByte_none h' j hj
   rw [aCx hx]; rfl
  ·rw [Lib.countB_hit s ⟨#[x]⟩ i (aJ 1) h] at hk; omega
 | succ k ih =>
  intro s hk
  rcases Lib.indexB_cases s ⟨#[x]⟩ with h|⟨i,h,hle⟩
  ·rw [Lib.countB_miss _ _ h] at hk; omega
  ·have hc:=Lib.countB_hit s ⟨#[x]⟩ i (aJ 1) h
   have h':Lib.indexByte s.data.toList x=(i:Int):=by rw [<- Lib.index_one]; exact h
   obtain ⟨h1,h2⟩:=Lib.indexByte_some h'
   have hi:=cV h1
   have hsz:s.data.toList.length=s.size:=by rw [Array.length_toList]; rfl
   have e1:(s.extract 0 (i + 0)).data.toList=s.data.toList.take i:=by
    simp only [ByteArray.data_extract,Array.toList_extract,aU,Nat.add_zero,Nat.sub_zero,List.drop_zero]
   have e2:(s.extract (i + (⟨#[x]⟩:ByteArray).size) s.size).data.toList=s.data.toList.drop (i + 1):=by
    simp only [ByteArray.data_extract,Array.toList_extract,aU]
    rw [aN (by rw [aV,hsz]; exact aJ _)]; rfl
   have e3:s.data.toList=s.data.toList.take i ++ x :: s.data.toList.drop (i + 1):=by
    rw [List.getElem?_eq_getElem hi] at h1
    injection h1 with h1
    have e4:x :: s.data.toList.drop (i + 1)=s.data.toList.drop i:=by rw [List.drop_eq_getElem_cons hi,h1]
    rw [e4,List.take_append_drop]
   have hx:x ∉ s.data.toList.take i:=fun hm=>by
    obtain ⟨j,hj⟩:=List.getElem?_of_mem hm
    rw [List.getElem?_take] at hj
    split at hj
    ·exact h2 j (by assumption) hj
    ·cases hj
   rw [Lib.splitB_hit _ _ _ _ i h,bA,e1,ih _ (by omega),e2]
   conv=>rhs; rw [e3]
   rw [wU hx]
theorem aI5 {w:World} {M:Nat->Prop}:∀ L:List (List UInt8),(dl D.str L).rep w M (L.map fun s=>Value.string ⟨s.toArray⟩) []
 | []=>⟨rfl,rfl⟩
 | s :: L=>⟨[_],_,[],[],rfl,rfl,⟨rfl,rfl⟩,aI5 L⟩
theorem aGF (s:List UInt8) (x:UInt8) (hl:s.length<=1000000000):Fn prog 38 [.str s,.str [x]] (fun rs=>rs=[.sl true 1 (dl D.str (parts x s))]):=by
 intro M vs w hM hG hv
 obtain ⟨cs,us,f1,f2,rfl,hf,⟨rfl,rfl⟩,cs2,us2,f3,f4,rfl,hf2,⟨rfl,rfl⟩,rfl,rfl⟩:=hv
 obtain ⟨m,hm⟩:=aQU hG.fact
 refine Calls.mono (Go.Proofs.Tryz.strings_Split ⟨s.toArray⟩ ⟨#[x]⟩ m w (by show s.toArray.size < _; simp; omega) hm (aJ 1)) ?_
 rintro e w' ⟨rfl,rfl⟩
 have key:=aHA x _ ⟨s.toArray⟩ rfl
 have hlen:Lib.countB ⟨s.toArray⟩ ⟨#[x]⟩ + 1=(parts x s).length:=by
  have h1:=Lib.splitB_all ⟨#[x]⟩ (aJ 1) 0 _ ⟨s.toArray⟩ rfl
  rw [<- h1,<-aY (f:=fun b:ByteArray=>b.data.toList),key]
 have hval:(Lib.splitB ⟨#[x]⟩ 0 (Lib.countB ⟨s.toArray⟩ ⟨#[x]⟩) ⟨s.toArray⟩).map Value.string=(parts x s).map fun s=>Value.string ⟨s.toArray⟩:=by
  have e:parts x s=parts x (⟨s.toArray⟩:ByteArray).data.toList:=by simp
  rw [e,<-key,List.map_map]
  exact List.map_congr_left fun b _=>by simp
 rw [hlen,hval]
 refine ⟨_,_,[w.heap.size],rfl,rfl,⟨[_],[],[w.heap.size],[],rfl,rfl,⟨?_,some ⟨w.heap.size,0,none⟩,(parts x s).length,(parts x s).map fun s=>Value.string ⟨s.toArray⟩,[],?_,?_,aI5 (parts x s),?_⟩,rfl,rfl⟩,by simp,?_,?_⟩
 ·exact (iW _).2 fun y hy=>by
   obtain ⟨z,_,rfl⟩:=aW.1 hy
   rfl
 ·rw [cO]
 ·rw [cO]; exact aJ _
 ·refine .inr ⟨w.heap.size,rfl,⟨⟨_,_,hZ.new w _ _,by simp,?_⟩,fun h=>absurd rfl h⟩,rfl⟩
  simp only []
  exact aN (aJ _)
 ·intro b hb
  rw [aR.1 hb]; exact aJ _
 ·exact ⟨rfl,rfl,rfl,by show w.heap.size<=(w.heap.push _).size; simp,fun b hb=>(Go.MapKept.heap_alloc w _).2 b hb⟩
theorem aKL (sep:List UInt8):∀ (L:List (List UInt8)) (x:List UInt8),L≠[]->Lib.join (L ++ [x]) sep=Lib.join L sep ++ (sep ++ x)
 | [],x,h=>absurd rfl h
 | a :: r,x,_=>by
  have h1:Lib.joinTail sep (r ++ [x])=Lib.joinTail sep r ++ (sep ++ x):=by simp [Lib.joinTail]
  simp only [aO,Lib.join_cons,h1,bD]
theorem aK1 (v:List Int) (h:∀ n∈v,dX .i64 n):(Lib.join (v.map Lib.itoa) [32]).length<=22 * v.length:=by
 cases v with
 | nil=>simp [Lib.join]
 | cons a r =>
  have h1:=sD [32] 21 (r.map Lib.itoa) (fun x hx=>by
   obtain ⟨n,hn,rfl⟩:=aW.1 hx
   exact eS n (h n (aP _ hn)))
  have h2:=eS a (h a aQ)
  simp only [bA,Lib.join_cons,aS,aC,aY,aD] at h1 ⊢
  omega
def aAk (v:List Int):Prop:=v.length<=1000/\∀ n∈v,0<=n/\dX .i64 n
theorem oB (v:List Int) (h:aAk v):Fn prog 109 [.sl false 1 (dl iD v)] (fun rs=>rs=[.str (m8 v)]):=by
 have hl:=h.1
 have hJ:=aAR v [32] (fun n hn=>(h.2 n hn).2) hl (by decide)
 unfold m8
 by_cases h0:v=[]
 ·have hd:decide ((v.length:Int)=0)=true:=by rw [h0]; rfl
  rw [if_pos h0]
  refine cW aJG [] ?_
  dsimp only [aJG,cT,c7]
  repeat' (first|(simp only [cJ,cO,hd,↓wA,↓wC,wB,cL,cK,bJ,bK,bL,reduceIte,reduceCtorEq,aA,bM])|((first|apply cG|apply cH|apply cF)<;>intro h<;>try simp only [h]))
 ·have:=bC.2 h0
  have hd:decide ((v.length:Int)=0)=false:=decide_eq_false (by omega)
  rw [if_neg h0]
  refine cW aJG [] ?_
  dsimp only [aJG,cT,c7]
  repeat' (first|(simp only [cJ,cO,hd,cY,↓wA,↓wC,wB,cL,cK,bJ,bK,bL,reduceIte,reduceCtorEq,aA,bM])|(refine cI hJ (by simp [dB,dI,D.unown,dM]) rfl ?_)|(refine cM hJ (by simp [dB,dI,D.unown,dM]) rfl ?_)|((first|apply cG|apply cH|apply cF)<;>intro h<;>try simp only [h]))
theorem pI (v:List Int) (b:Bool) (h:aAk v):Fn prog 91 [.sl false 1 (dl iD v),.bool b] (fun rs=>rs=[.str (if b then m8 v else qm)]):=by
 have hl:=h.1
 unfold m8
 cases b with
 | false =>
  refine cW aKC [] ?_
  dsimp only [aKC,cT,c7]
  repeat' (first|(simp only [cJ,↓wA,↓wC,wB,cL,cK,bJ,bK,bL,reduceIte,reduceCtorEq,aA,bM])|((first|apply cG|apply cH|apply cF)<;>intro h<;>try simp only [h]))
  all_goals rfl
 | true =>
  by_cases h0:v=[]
  ·have hd:decide ((v.length:Int)=0)=true:=by rw [h0]; rfl
   rw [if_pos h0,if_pos rfl]
   refine cW aKC [] ?_
   dsimp only [aKC,cT,c7]
   repeat' (first|(simp only [cJ,cO,hd,↓wA,↓wC,wB,cL,cK,bJ,bK,bL,reduceIte,reduceCtorEq,aA,bM])|((first|apply cG|apply cH|apply cF)<;>intro h<;>try simp only [h]))
  ·have hp:=bC.2 h0
   have hd0:decide ((v.length:Int)=0)=false:=decide_eq_false (by omega)
   obtain ⟨a,ha⟩:=dP hp
   have hA:=fR a (h.2 a (aH ha)).1 (h.2 a (aH ha)).2
   have e0:Lib.itoa a=Lib.join ((v.take 1).map Lib.itoa) [32]:=by
    cases v with
    | nil=>exact absurd rfl h0
    | cons x r=>injection ha with ha; subst ha; simp [Lib.join_one]
   rw [if_neg h0,if_pos rfl]
   refine cW aKC [] ?_
   dsimp only [aKC,cT,c7]
   repeat' (first|(simp only [cJ,cO,c6,hd0,ha,aB,aG,e9,iD,↓wA,↓wC,wB,cL,cK,bJ,bK,bL,reduceIte,reduceCtorEq,aA,bM])|(refine cI (hA) rfl rfl ?_)|(refine cM (hA) rfl rfl ?_)|(with_reducible refine cQ ?_ ?_; focus omega)|((first|apply cG|apply cH|apply cF)<;>intro h<;>try simp only [h]))
   refine dZ (fun i:Nat=>⟨[(0,.d (.sl false 1 (dl iD v))),(5,.d (.str (Lib.join ((v.take i).map Lib.itoa) [32]))),(6,.d (.int .i64 (i:Int)))],[]⟩) (fun i=>1<=i/\i<=v.length) (fun i=>v.length - i) 1 (by rw [<- e0]; exact (cU _ rfl ⟨⟨rfl,rfl⟩,⟨rfl,rfl⟩,⟨rfl,rfl⟩,trivial⟩)) ⟨aJ _,hp⟩ ?_
   rintro i ⟨h1,h2⟩
   by_cases hi:i < v.length
   ·have hd:decide ((i:Int) < (v.length:Int))=true:=decide_eq_true (by omega)
    obtain ⟨n,hn⟩:=dP hi
    have hN:=fR n (h.2 n (aH hn)).1 (h.2 n (aH hn)).2
    have hj:=aK1 (v.take i) (fun n hn=>(h.2 n (List.mem_of_mem_take hn)).2)
    have hk:=eS n (h.2 n (aH hn)).2
    rw [aM,aZ (by omega)] at hj
    have ej:Lib.join ((v.take (i + 1)).map Lib.itoa) [32]=Lib.join ((v.take i).map Lib.itoa) [32] ++ (32 :: Lib.itoa n):=by
     rw [e7 hn,List.map_append]
     exact aKL [32] _ _ fun e=>by
      have:=congrArg List.length e
      simp only [aY,aM,aD] at this
      omega
    repeat' (first|(simp only [cJ,cO,c6,hd,hn,aB,aT,iD,↓wA,↓wC,wB,bJ,bK,reduceIte,reduceCtorEq])|(refine cI (hN) rfl rfl ?_)|(refine cM (hN) rfl rfl ?_)|(with_reducible refine cQ ?_ ?_; focus ((try simp only [aS,aC,aD]); omega))|(with_reducible refine cP ?_ ?_; focus (simp only [dX]; omega))|((first|apply cG|apply cH|apply cF)<;>intro h<;>try simp only [h]))
    all_goals
     refine ⟨i + 1,?_,⟨by omega,by omega⟩,by omega⟩
     rw [ej]
     (try simp only [bD,aO,a6])
     exact (cU _ rfl ⟨⟨rfl,rfl⟩,⟨rfl,rfl⟩,⟨rfl,rfl⟩,trivial⟩)
   ·have hd:decide ((i:Int) < (v.length:Int))=false:=decide_eq_false (by omega)
    have ht:v.take i=v:=aN (by omega)
    repeat' (first|(simp only [cJ,cO,hd,ht,↓wA,↓wC,wB,cL,cK,bJ,bK,bL,reduceIte,reduceCtorEq,aA,bM])|((first|apply cG|apply cH|apply cF)<;>intro h<;>try simp only [h]))
theorem aC9 (o:Off) (id:Int) (ho:o.ok0):Fn prog 95 [o.s,.int .i64 id] (fun rs=>rs=[.str (aCq o id)]):=by
 have hC:=aA0 o id ho
 unfold aCq kF
 unfold aCz at hC
 by_cases h1:dO o=true
 ·rw [if_pos h1] at hC
  by_cases h2:0<=fU o.cs id
  ·rw [if_pos h2] at hC
   rw [if_pos ⟨h1,h2⟩]
   refine cW aLs [] ?_
   dsimp only [aLs,cT,c7]
   repeat' (first|(simp only [aWu,aWw,↓dF,cJ,↓wA,↓wC,wB,cL,cK,bJ,bK,bL,reduceIte,reduceCtorEq,aA,bM])|(refine cI hC (by simp [dB,dI,aWv]) rfl ?_)|((first|apply cG|apply cH|apply cF)<;>intro h<;>try simp only [h]))
   all_goals rfl
  ·rw [if_neg h2] at hC
   rw [if_neg (fun h=>h2 h.2)]
   refine cW aLs [] ?_
   dsimp only [aLs,cT,c7]
   repeat' (first|(simp only [aWu,aWw,↓dF,cJ,↓wA,↓wC,wB,cL,cK,bJ,bK,bL,reduceIte,reduceCtorEq,aA,bM])|(refine cI hC (by simp [dB,dI,aWv]) rfl ?_)|((first|apply cG|apply cH|apply cF)<;>intro h<;>try simp only [h]))
   all_goals rfl
 ·rw [if_neg h1] at hC
  rw [if_neg (fun h=>h1 h.1)]
  refine cW aLs [] ?_
  dsimp only [aLs,cT,c7]
  repeat' (first|(simp only [aWu,aWw,↓dF,cJ,↓wA,↓wC,wB,cL,cK,bJ,bK,bL,reduceIte,reduceCtorEq,aA,bM])|(refine cI hC (by simp [dB,dI,aWv]) rfl ?_)|((first|apply cG|apply cH|apply cF)<;>intro h<;>try simp only [h]))
  all_goals rfl
def wIx (w:List UInt8):Nat:=if w=nB then 0 else if w=kG then 1 else if w=nX then 2 else if w=gF then 3 else if w=kQ then 4 else if w=tP then 5 else if w=uO then 6 else if w=tW then 7 else if w=gK then 8 else if w=oG then 9 else if w=nY then 10 else if w=oO then 11 else 12
theorem wI (w:List UInt8) (k:Nat) (h:wIx w=k):decide (w=nB)=(k == 0)/\decide (w=kG)=(k == 1)/\decide (w=nX)=(k == 2)/\decide (w=gF)=(k == 3)/\decide (w=kQ)=(k == 4)/\decide (w=tP)=(k == 5)/\decide (w=uO)=(k == 6)/\decide (w=tW)=(k == 7)/\decide (w=gK)=(k == 8)/\decide (w=oG)=(k == 9)/\decide (w=nY)=(k == 10)/\decide (w=oO)=(k == 11):=by
 subst h
 rcases oW w with rfl|rfl|rfl|rfl|rfl|rfl|rfl|rfl|rfl|rfl|rfl|rfl|⟨h0,h1,h2,h3,h4,h5,h6,h7,h8,h9,lA,h11⟩
 all_goals first|exact ⟨rfl,rfl,rfl,rfl,rfl,rfl,rfl,rfl,rfl,rfl,rfl,rfl⟩|skip
 have e:wIx w=12:=by unfold wIx; rw [if_neg h0,if_neg h1,if_neg h2,if_neg h3,if_neg h4,if_neg h5,if_neg h6,if_neg h7,if_neg h8,if_neg h9,if_neg lA,if_neg h11]
 rw [e]
 exact ⟨decide_eq_false h0,decide_eq_false h1,decide_eq_false h2,decide_eq_false h3,decide_eq_false h4,decide_eq_false h5,decide_eq_false h6,decide_eq_false h7,decide_eq_false h8,decide_eq_false h9,decide_eq_false lA,decide_eq_false h11⟩
def aTd (s:Option Stp):List D:=match s with
 | some s=>[jZ s.k s.i s.a s.v,.bool true]
 | none=>[jZ 0 0 0 0,.bool false]
theorem aId (w:List UInt8) (n:List Int) (h:lkp qZ w=some (n.length:Int)):Fn prog 71 [.str w,.sl false 1 (dl iD n)] (fun rs=>rs=aTd (l7 w n)):=by
 have hl:∀ {v:List UInt8} {m:Int},w=v->lkp qZ v=some m->(n.length:Int)=m:=fun e hm=>by
  rw [e,hm] at h
  injection h with h
  exact h.symm
 rcases oW w with hw|hw|hw|hw|hw|hw|hw|hw|hw|hw|hw|hw|hw
 ·have hI:=wI w 0 (by subst hw; rfl)
  have hn:=hl hw zP
  rw [(congrArg (l7 · n) hw).trans (aSj n)]
  obtain ⟨a,rfl⟩:∃ a,n=[a]:=by
   match n,hn with
   | [a],_=>exact ⟨a,rfl⟩
  refine cW oX [] ?_
  dsimp only [oX,cT,c7]
  repeat' (first|(simp only [hI,cJ,cO,c6,List.getElem?_cons_zero,List.getElem?_cons_succ,aC,aD,aB,aE,e9,iD,↓wA,↓wC,wB,cL,cK,bJ,bK,bL,reduceIte,reduceCtorEq,aA,bM,aAX])|(refine dL ?_)|(with_reducible refine cQ ?_ ?_; focus omega)|((first|apply cG|apply cH|apply cF)<;>intro h<;>try simp only [h]))
  all_goals rfl
 ·have hI:=wI w 1 (by subst hw; rfl)
  have hn:=hl hw u6
  rw [(congrArg (l7 · n) hw).trans (aJs n)]
  obtain ⟨a,b,c,rfl⟩:∃ a b c,n=[a,b,c]:=by
   match n,hn with
   | [a,b,c],_=>exact ⟨a,b,c,rfl⟩
  refine cW oX [] ?_
  dsimp only [oX,cT,c7]
  repeat' (first|(simp only [hI,cJ,cO,c6,List.getElem?_cons_zero,List.getElem?_cons_succ,aC,aD,aB,aE,e9,iD,↓wA,↓wC,wB,cL,cK,bJ,bK,bL,reduceIte,reduceCtorEq,aA,bM,aAX])|(refine dL ?_)|(with_reducible refine cQ ?_ ?_; focus omega)|((first|apply cG|apply cH|apply cF)<;>intro h<;>try simp only [h]))
  all_goals rfl
 ·have hI:=wI w 2 (by subst hw; rfl)
  have hn:=hl hw zT
  rw [(congrArg (l7 · n) hw).trans (aNl n)]
  obtain ⟨a,b,rfl⟩:∃ a b,n=[a,b]:=by
   match n,hn with
   | [a,b],_=>exact ⟨a,b,rfl⟩
  refine cW oX [] ?_
  dsimp only [oX,cT,c7]
  repeat' (first|(simp only [hI,cJ,cO,c6,List.getElem?_cons_zero,List.getElem?_cons_succ,aC,aD,aB,aE,e9,iD,↓wA,↓wC,wB,cL,cK,bJ,bK,bL,reduceIte,reduceCtorEq,aA,bM,aAX])|(refine dL ?_)|(with_reducible refine cQ ?_ ?_; focus omega)|((first|apply cG|apply cH|apply cF)<;>intro h<;>try simp only [h]))
  all_goals rfl
 ·have hI:=wI w 3 (by subst hw; rfl)
  have hn:=hl hw pF
  rw [(congrArg (l7 · n) hw).trans (aDW n)]
  obtain ⟨a,rfl⟩:∃ a,n=[a]:=by
   match n,hn with
   | [a],_=>exact ⟨a,rfl⟩
  refine cW oX [] ?_
  dsimp only [oX,cT,c7]
  repeat' (first|(simp only [hI,cJ,c6,List.getElem?_cons_zero,List.getElem?_cons_succ,aD,aB,aE,iD,↓wA,↓wC,wB,bJ,bK,reduceIte,reduceCtorEq,aA,aAX])|(refine dL ?_)|(with_reducible refine cQ ?_ ?_; focus omega)|((first|apply cG|apply cH|apply cF)<;>intro h<;>try simp only [h]))
  all_goals rfl
 ·have hI:=wI w 4 (by subst hw; rfl)
  have hn:=hl hw vC
  rw [(congrArg (l7 · n) hw).trans (aJv n)]
  obtain ⟨a,b,rfl⟩:∃ a b,n=[a,b]:=by
   match n,hn with
   | [a,b],_=>exact ⟨a,b,rfl⟩
  refine cW oX [] ?_
  dsimp only [oX,cT,c7]
  repeat' (first|(simp only [hI,cJ,cO,c6,List.getElem?_cons_zero,List.getElem?_cons_succ,aC,aD,aB,aE,e9,iD,↓wA,↓wC,wB,cL,cK,bJ,bK,bL,reduceIte,reduceCtorEq,aA,bM,aAX])|(refine dL ?_)|(with_reducible refine cQ ?_ ?_; focus omega)|((first|apply cG|apply cH|apply cF)<;>intro h<;>try simp only [h]))
  all_goals rfl
 ·have hI:=wI w 5 (by subst hw; rfl)
  have hn:=hl hw aEq
  rw [(congrArg (l7 · n) hw).trans (aTY n)]
  obtain ⟨a,rfl⟩:∃ a,n=[a]:=by
   match n,hn with
   | [a],_=>exact ⟨a,rfl⟩
  refine cW oX [] ?_
  dsimp only [oX,cT,c7]
  repeat' (first|(simp only [hI,cJ,cO,c6,List.getElem?_cons_zero,List.getElem?_cons_succ,aC,aD,aB,aE,e9,iD,↓wA,↓wC,wB,cL,cK,bJ,bK,bL,reduceIte,reduceCtorEq,aA,bM,aAX])|(refine dL ?_)|(with_reducible refine cQ ?_ ?_; focus omega)|((first|apply cG|apply cH|apply cF)<;>intro h<;>try simp only [h]))
  all_goals rfl
 ·have hI:=wI w 6 (by subst hw; rfl)
  have hn:=hl hw aBy
  rw [(congrArg (l7 · n) hw).trans (aMS n)]
  refine cW oX [] ?_
  dsimp only [oX,cT,c7]
  repeat' (first|(simp only [hI,cJ,cO,c6,List.getElem?_cons_zero,List.getElem?_cons_succ,aC,aD,aB,aE,e9,iD,↓wA,↓wC,wB,cL,cK,bJ,bK,bL,reduceIte,reduceCtorEq,aA,bM,aAX])|(refine dL ?_)|(with_reducible refine cQ ?_ ?_; focus omega)|((first|apply cG|apply cH|apply cF)<;>intro h<;>try simp only [h]))
  all_goals rfl
 ·have hI:=wI w 7 (by subst hw; rfl)
  have hn:=hl hw aC8
  rw [(congrArg (l7 · n) hw).trans (aM6 n)]
  refine cW oX [] ?_
  dsimp only [oX,cT,c7]
  repeat' (first|(simp only [hI,cJ,c6,List.getElem?_cons_zero,aD,aB,aE,iD,↓wA,↓wC,wB,bJ,bK,reduceIte,reduceCtorEq,aA,aAX])|(refine dL ?_)|(with_reducible refine cQ ?_ ?_; focus omega)|((first|apply cG|apply cH|apply cF)<;>intro h<;>try simp only [h]))
  all_goals rfl
 ·have hI:=wI w 8 (by subst hw; rfl)
  have hn:=hl hw nI
  rw [(congrArg (l7 · n) hw).trans (aAz n)]
  refine cW oX [] ?_
  dsimp only [oX,cT,c7]
  repeat' (first|(simp only [hI,cJ,cO,c6,List.getElem?_cons_zero,List.getElem?_cons_succ,aC,aD,aB,aE,e9,iD,↓wA,↓wC,wB,cL,cK,bJ,bK,bL,reduceIte,reduceCtorEq,aA,bM,aAX])|(refine dL ?_)|(with_reducible refine cQ ?_ ?_; focus omega)|((first|apply cG|apply cH|apply cF)<;>intro h<;>try simp only [h]))
  all_goals rfl
 ·have hI:=wI w 9 (by subst hw; rfl)
  have hn:=hl hw w4
  rw [(congrArg (l7 · n) hw).trans (aIN n)]
  refine cW oX [] ?_
  dsimp only [oX,cT,c7]
  repeat' (first|(simp only [hI,cJ,cO,c6,List.getElem?_cons_zero,List.getElem?_cons_succ,aC,aD,aB,aE,e9,iD,↓wA,↓wC,wB,cL,cK,bJ,bK,bL,reduceIte,reduceCtorEq,aA,bM,aAX])|(refine dL ?_)|(with_reducible refine cQ ?_ ?_; focus omega)|((first|apply cG|apply cH|apply cF)<;>intro h<;>try simp only [h]))
  all_goals rfl
 ·have hI:=wI w 10 (by subst hw; rfl)
  have hn:=hl hw xH
  rw [(congrArg (l7 · n) hw).trans (aIA n)]
  obtain ⟨a,rfl⟩:∃ a,n=[a]:=by
   match n,hn with
   | [a],_=>exact ⟨a,rfl⟩
  refine cW oX [] ?_
  dsimp only [oX,cT,c7]
  repeat' (first|(simp only [hI,cJ,cO,c6,List.getElem?_cons_zero,List.getElem?_cons_succ,aC,aD,aB,aE,e9,iD,↓wA,↓wC,wB,cL,cK,bJ,bK,bL,reduceIte,reduceCtorEq,aA,bM,aAX])|(refine dL ?_)|(with_reducible refine cQ ?_ ?_; focus omega)|((first|apply cG|apply cH|apply cF)<;>intro h<;>try simp only [h]))
  all_goals rfl
 ·have hI:=wI w 11 (by subst hw; rfl)
  have hn:=hl hw wN
  rw [(congrArg (l7 · n) hw).trans (aHK n)]
  obtain ⟨a,rfl⟩:∃ a,n=[a]:=by
   match n,hn with
   | [a],_=>exact ⟨a,rfl⟩
  refine cW oX [] ?_
  dsimp only [oX,cT,c7]
  repeat' (first|(simp only [hI,cJ,List.getElem?_cons_zero,aD,↓wA,↓wC,wB,bJ,bK,reduceIte,reduceCtorEq,aA,aAX])|(refine dL ?_)|(with_reducible refine cQ ?_ ?_; focus omega)|((first|apply cG|apply cH|apply cF)<;>intro h<;>try simp only [h]))
  all_goals rfl
 ·rw [xE hw] at h; cases h
theorem aHl:∀ (k:Nat) (v:List Int),v.length<=k->(∀ n∈v,gM n)->gM (nD v)
 | 0,v,h,hv=>by
  obtain rfl:=aX.1 (by omega:v.length=0)
  rw [nD,dif_pos (by decide)]
  exact ⟨by decide,by decide⟩
 | k + 1,v,h,hv=>by
  by_cases h1:v.length<=1
  ·rw [nD,dif_pos h1]
   cases v with
   | nil=>exact ⟨by decide,by decide⟩
   | cons a r=>exact hv a aQ
  ·rw [<- xL h1]
   exact aHl k _ (by have:=nN v; omega) (vD v hv)
theorem aDc {o:Off} (p:Cs->Bool) (h:dO o=true):aAk (mH p o.cs):=by
 have hp:=eK h
 have hl:=r5 p o.cs
 refine ⟨by omega,fun n hn=>?_⟩
 obtain ⟨x,hx,rfl⟩:=aW.1 hn
 have:=fH (hp.2.2.2.2.2.2.2.2.2 x (List.mem_filter.1 hx).1)
 exact ⟨by omega,by simp only [dX]; omega⟩
theorem aNL {o:Off} (h:dO o=true):aAk (aHg o):=by
 have hp:=eK h
 refine ⟨by simp [aHg],fun n hn=>?_⟩
 simp only [aHg,bB,List.not_mem_nil,or_false] at hn
 simp only [dX]
 omega
theorem aSk:aAk []:=⟨by decide,fun n hn=>by cases hn⟩
theorem aGA (o:Off) (h:dO o=true):Fn prog 110 [o.s] (fun rs=>rs=[.sl false 1 (dl iD (mH (rW o) o.cs)),.bool true]):=by
 have h1:=aIk o (fB h)
 unfold aBa at h1
 rw [if_pos h] at h1
 simpa [D.unown,dM] using fY h1
theorem aFM (o:Off) (h:dO o=true):Fn prog 90 [o.s] (fun rs=>rs=[.sl false 1 (dl iD (mH (rW o) o.cs)),.bool true]):=by
 have h1:=aHM o (fB h)
 unfold aBa at h1
 rw [if_pos h] at h1
 simpa [D.unown,dM] using fY h1
theorem aF1 (o:Off) (h:dO o=true):Fn prog 111 [o.s] (fun rs=>rs=[.sl false 1 (dl iD (mH (rC o) o.cs)),.bool true]):=by
 have h1:=aHS o (fB h)
 unfold aBa at h1
 rw [if_pos h] at h1
 simpa [D.unown,dM] using fY h1
theorem aG6 (o:Off) (h:dO o=true):Fn prog 92 [o.s] (fun rs=>rs=[.sl false 1 (dl iD (mH (rC o) o.cs)),.bool true]):=by
 have h1:=aCe o (fB h)
 unfold aBa at h1
 rw [if_pos h] at h1
 simpa [D.unown,dM] using fY h1
def aGl (n:Int) (o:Off):List Int:=if dC n 1 9=true then mH (aB7 n) o.cs else []
theorem aBh {o:Off} (n:Int) (h:dO o=true):aAk (aGl n o):=by
 unfold aGl
 split
 ·exact aDc _ h
 ·exact aSk
theorem aBd {o:Off} (n:Int) (h:dO o=true):aAl n o=if dC n 1 9=true then some (aGl n o) else none:=by
 unfold aAl aGl
 rw [h]
 cases dC n 1 9<;>rfl
theorem aTV {o:Off} {n:Int} (h:dO o=true):(aJT n o).map D.unown=[.sl false 1 (dl iD (aGl n o)),.bool (dC n 1 9)]:=by
 unfold aJT aGl
 cases hw:dC n 1 9 with
 | true=>rw [if_pos ⟨h,rfl⟩,if_pos rfl]; simp [D.unown,dM]
 | false=>rw [if_neg (fun e=>by cases e.2),if_neg (fun e=>by cases e)]; simp [D.unown]; rfl
theorem xP (o:Off) (n:Int) (h:dO o=true):Fn prog 108 [o.s,.int .i64 n] (fun rs=>rs=[.sl false 1 (dl iD (aGl n o)),.bool (dC n 1 9)]):=by
 have h1:=fY (aGd o n (fB h))
 rw [aTV h] at h1
 exact h1
theorem yS (o:Off) (n:Int) (h:dO o=true):Fn prog 94 [o.s,.int .i64 n] (fun rs=>rs=[.sl false 1 (dl iD (aGl n o)),.bool (dC n 1 9)]):=by
 have h1:=fY (aG1 o n (fB h))
 rw [aTV h] at h1
 exact h1
def yM (o:Off):Int:=if eM o.led=true then nD (o.led.map j5) else 0
theorem aGb {o:Off}:gM (yM o):=by
 unfold yM
 split
 ·exact aHl _ _ (aJ _) (fun n hn=>by
   obtain ⟨s,_,rfl⟩:=aW.1 hn
   exact aHo s)
 ·exact ⟨by decide,by decide⟩
theorem aGy {o:Off} (h:dO o=true):aDN o=[.int .i64 (yM o),.bool (eM o.led)]:=by
 unfold aDN yM
 cases hl:eM o.led with
 | true=>rw [if_pos ⟨h,rfl⟩,if_pos rfl]
 | false=>rw [if_neg (fun e=>by cases e.2),if_neg (fun e=>by cases e)]
theorem aGX {o:Off} (h:dO o=true):aEw o=if eM o.led=true then some (yM o) else none:=by
 unfold aEw yM
 cases hl:eM o.led with
 | true=>rw [if_pos ⟨h,rfl⟩,if_pos rfl,if_pos rfl]
 | false=>rw [if_neg (fun e=>by cases e.2),if_neg (fun e=>by cases e)]
def aJf (o:Off) (id:Int):List UInt8:=(kF o id).getD []
theorem y4 {o:Off} (h:dO o=true) (id:Int):aCz o id=[.str (aJf o id),.bool (kF o id).isSome]:=by
 unfold aCz aJf kF
 rw [if_pos h]
 by_cases h2:0<=fU o.cs id
 ·rw [if_pos h2,if_pos ⟨h,h2⟩]; rfl
 ·rw [if_neg h2,if_neg (fun e=>h2 e.2)]; rfl
def aK4 (x:Option (List UInt8)) (rs:List D):Prop:=∃ t,rs=[.str t,.bool x.isSome]/\∀ r,x=some r->t=r
theorem iP {x:List UInt8}:aK4 (some x) [.str x,.bool true]:=⟨_,rfl,fun r e=>by injection e⟩
theorem iQ {o:Off} {a:Int}:aK4 (kF o a) [.str (aJf o a),.bool (kF o a).isSome]:=⟨_,rfl,fun r e=>by unfold aJf; rw [e]; rfl⟩
theorem lZ {α:Type} {c:Bool} {l:α} {f:α->List UInt8}:aK4 ((if c=true then some l else none).map f) [.str (f l),.bool c]:=by
 cases c
 ·exact ⟨_,rfl,fun r e=>by cases e⟩
 ·exact ⟨_,rfl,fun r e=>by injection e⟩
theorem aBX (b o:Off) (w:List UInt8) (n:List Int) (hb:dO b=true) (ho:dO o=true) (h:lkp qZ w=some (n.length:Int)):Fn prog 73 [b.s,o.s,.str w,.sl false 1 (dl iD n)] (aK4 (fO b o w n)):=by
 have hp:=eK ho
 have hl:∀ {v:List UInt8} {m:Int},w=v->lkp qZ v=some m->(n.length:Int)=m:=fun e hm=>by
  rw [e,hm] at h
  injection h with h
  exact h.symm
 rcases oW w with hw|hw|hw|hw|hw|hw|hw|hw|hw|hw|hw|hw|hw
 ·have hI:=wI w 0 (by subst hw; rfl)
  have hn:=hl hw zP
  rw [(congrArg (fO b o · n) hw).trans (aMX b o n)]
  obtain ⟨a,rfl⟩:∃ a,n=[a]:=by
   match n,hn with
   | [a],_=>exact ⟨a,rfl⟩
  have hD:=fG o.day (by simp only [dX]; omega)
  refine cW o8 [] ?_
  dsimp only [o8,cT,c7]
  repeat' (first|(simp only [hI,cJ,cO,c6,List.getElem?_cons_zero,List.getElem?_cons_succ,aC,aD,aB,aE,e9,iD,aWu,aWw,↓dF,jE,o9,pA,kZ,jJ,o4,pE,kY,cR,↓wA,↓wC,wB,cL,cK,bJ,bK,bL,reduceIte,reduceCtorEq,aA,bM])|(refine cI (hD) rfl rfl ?_)|(refine cM (hD) rfl rfl ?_)|(with_reducible refine cQ ?_ ?_; focus omega)|((first|apply cG|apply cH|apply cF)<;>intro h<;>try simp only [h]))
  all_goals first|exact iP|exact iQ|exact lZ
 ·have hI:=wI w 1 (by subst hw; rfl)
  have hn:=hl hw u6
  rw [(congrArg (fO b o · n) hw).trans (aJK b o n)]
  obtain ⟨a,b',c,rfl⟩:∃ a b' c,n=[a,b',c]:=by
   match n,hn with
   | [a,b',c],_=>exact ⟨a,b',c,rfl⟩
  have hH:=lY o a (fB ho)
  rw [y4 ho] at hH
  rw [show n0 [a,b',c]=a from rfl]
  refine cW o8 [] ?_
  dsimp only [o8,cT,c7]
  repeat' (first|(simp only [hI,cJ,cO,c6,List.getElem?_cons_zero,List.getElem?_cons_succ,aC,aD,aB,aE,e9,iD,aWu,aWw,↓dF,jE,o9,pA,kZ,jJ,o4,pE,kY,cR,↓wA,↓wC,wB,cL,cK,bJ,bK,bL,reduceIte,reduceCtorEq,aA,bM])|(refine cI hH (by simp [dB,dI,aWv]) rfl ?_)|(refine cM hH (by simp [dB,dI,aWv]) rfl ?_)|(with_reducible refine cQ ?_ ?_; focus omega)|((first|apply cG|apply cH|apply cF)<;>intro h<;>try simp only [h]))
  all_goals first|exact iP|exact iQ|exact lZ
 ·have hI:=wI w 2 (by subst hw; rfl)
  have hn:=hl hw zT
  rw [(congrArg (fO b o · n) hw).trans (aLI b o n)]
  obtain ⟨a,b',rfl⟩:∃ a b',n=[a,b']:=by
   match n,hn with
   | [a,b'],_=>exact ⟨a,b',rfl⟩
  have hH:=lY o a (fB ho)
  rw [y4 ho] at hH
  rw [show n0 [a,b']=a from rfl]
  refine cW o8 [] ?_
  dsimp only [o8,cT,c7]
  repeat' (first|(simp only [hI,cJ,cO,c6,List.getElem?_cons_zero,List.getElem?_cons_succ,aC,aD,aB,aE,e9,iD,aWu,aWw,↓dF,jE,o9,pA,kZ,jJ,o4,pE,kY,cR,↓wA,↓wC,wB,cL,cK,bJ,bK,bL,reduceIte,reduceCtorEq,aA,bM])|(refine cI hH (by simp [dB,dI,aWv]) rfl ?_)|(refine cM hH (by simp [dB,dI,aWv]) rfl ?_)|(with_reducible refine cQ ?_ ?_; focus omega)|((first|apply cG|apply cH|apply cF)<;>intro h<;>try simp only [h]))
  all_goals first|exact iP|exact iQ|exact lZ
 ·have hI:=wI w 3 (by subst hw; rfl)
  have hn:=hl hw pF
  rw [(congrArg (fO b o · n) hw).trans (aD0 b o n)]
  obtain ⟨a,rfl⟩:∃ a,n=[a]:=by
   match n,hn with
   | [a],_=>exact ⟨a,rfl⟩
  have hH:=xP b a hb
  have hT:=oB _ (aBh a hb)
  rw [show n0 [a]=a from rfl,aBd a hb]
  refine cW o8 [] ?_
  dsimp only [o8,cT,c7]
  repeat' (first|(simp only [hI,cJ,cO,c6,List.getElem?_cons_zero,List.getElem?_cons_succ,aC,aD,aB,aE,e9,iD,cY,aWu,aWw,↓dF,jE,o9,pA,kZ,jJ,o4,pE,kY,cR,↓wA,↓wC,wB,cL,cK,bJ,bK,bL,reduceIte,reduceCtorEq,aA,bM])|(refine cM hH (by simp [dB,dI,aWv]) rfl ?_)|(refine cI hT (by simp [dB,dI,D.unown,dM]) rfl ?_)|(refine cM hT (by simp [dB,dI,D.unown,dM]) rfl ?_)|(with_reducible refine cQ ?_ ?_; focus omega)|((first|apply cG|apply cH|apply cF)<;>intro h<;>try simp only [h]))
  all_goals first|exact iP|exact iQ|exact lZ
 ·have hI:=wI w 4 (by subst hw; rfl)
  have hn:=hl hw vC
  rw [(congrArg (fO b o · n) hw).trans (aJE b o n)]
  obtain ⟨a,b',rfl⟩:∃ a b',n=[a,b']:=by
   match n,hn with
   | [a,b'],_=>exact ⟨a,b',rfl⟩
  have hH:=lY o a (fB ho)
  rw [y4 ho] at hH
  rw [show n0 [a,b']=a from rfl]
  refine cW o8 [] ?_
  dsimp only [o8,cT,c7]
  repeat' (first|(simp only [hI,cJ,cO,c6,List.getElem?_cons_zero,List.getElem?_cons_succ,aC,aD,aB,aE,e9,iD,aWu,aWw,↓dF,jE,o9,pA,kZ,jJ,o4,pE,kY,cR,↓wA,↓wC,wB,cL,cK,bJ,bK,bL,reduceIte,reduceCtorEq,aA,bM])|(refine cI hH (by simp [dB,dI,aWv]) rfl ?_)|(refine cM hH (by simp [dB,dI,aWv]) rfl ?_)|(with_reducible refine cQ ?_ ?_; focus omega)|((first|apply cG|apply cH|apply cF)<;>intro h<;>try simp only [h]))
  all_goals first|exact iP|exact iQ|exact lZ
 ·have hI:=wI w 5 (by subst hw; rfl)
  have hn:=hl hw aEq
  rw [(congrArg (fO b o · n) hw).trans (aRT b o n)]
  obtain ⟨a,rfl⟩:∃ a,n=[a]:=by
   match n,hn with
   | [a],_=>exact ⟨a,rfl⟩
  have hT:=oB _ (aNL ho)
  refine cW o8 [] ?_
  dsimp only [o8,cT,c7]
  repeat' (first|(simp only [hI,cJ,c6,List.getElem?_cons_zero,List.getElem?_cons_succ,aC,aD,aB,aE,iD,aWu,aWw,↓dF,↓wA,↓wC,wB,bJ,bK,reduceIte,reduceCtorEq,aA])|(refine cI hT rfl rfl ?_)|(with_reducible refine cQ ?_ ?_; focus omega)|((first|apply cG|apply cH|apply cF)<;>intro h<;>try simp only [h]))
  all_goals first|exact iP|exact iQ|exact lZ
 ·have hI:=wI w 6 (by subst hw; rfl)
  have hn:=hl hw aBy
  rw [(congrArg (fO b o · n) hw).trans (aQ9 b o n)]
  have hD:=fG o.day (by simp only [dX]; omega)
  refine cW o8 [] ?_
  dsimp only [o8,cT,c7]
  repeat' (first|(simp only [hI,cJ,cO,c6,List.getElem?_cons_zero,List.getElem?_cons_succ,aC,aD,aB,aE,e9,iD,aWu,aWw,↓dF,jE,o9,pA,kZ,jJ,o4,pE,kY,cR,↓wA,↓wC,wB,cL,cK,bJ,bK,bL,reduceIte,reduceCtorEq,aA,bM])|(refine cI (hD) rfl rfl ?_)|(refine cM (hD) rfl rfl ?_)|(with_reducible refine cQ ?_ ?_; focus omega)|((first|apply cG|apply cH|apply cF)<;>intro h<;>try simp only [h]))
  all_goals first|exact iP|exact iQ|exact lZ
 ·have hI:=wI w 7 (by subst hw; rfl)
  have hn:=hl hw aC8
  rw [(congrArg (fO b o · n) hw).trans (aRX b o n)]
  have hH:=aGA o ho
  have hT:=oB _ (aDc (rW o) ho)
  rw [show aBc (rW o) o=some _ from if_pos ho]
  refine cW o8 [] ?_
  dsimp only [o8,cT,c7]
  repeat' (first|(simp only [hI,cJ,cO,c6,List.getElem?_cons_zero,List.getElem?_cons_succ,aC,aD,aB,aE,e9,iD,cY,aWu,aWw,↓dF,jE,o9,pA,kZ,jJ,o4,pE,kY,cR,↓wA,↓wC,wB,cL,cK,bJ,bK,bL,reduceIte,reduceCtorEq,aA,bM])|(refine cI hH (by simp [dB,dI,aWv]) rfl ?_)|(refine cI hT (by simp [dB,dI,D.unown,dM]) rfl ?_)|(with_reducible refine cQ ?_ ?_; focus omega)|((first|apply cG|apply cH|apply cF)<;>intro h<;>try simp only [h]))
  all_goals first|exact iP|exact iQ|exact lZ
 ·have hI:=wI w 8 (by subst hw; rfl)
  have hn:=hl hw nI
  rw [(congrArg (fO b o · n) hw).trans (aED b o n)]
  have hH:=aF1 o ho
  have hT:=oB _ (aDc (rC o) ho)
  rw [show aBc (rC o) o=some _ from if_pos ho]
  refine cW o8 [] ?_
  dsimp only [o8,cT,c7]
  repeat' (first|(simp only [hI,cJ,cO,c6,List.getElem?_cons_zero,List.getElem?_cons_succ,aC,aD,aB,aE,e9,iD,cY,aWu,aWw,↓dF,jE,o9,pA,kZ,jJ,o4,pE,kY,cR,↓wA,↓wC,wB,cL,cK,bJ,bK,bL,reduceIte,reduceCtorEq,aA,bM])|(refine cI hH (by simp [dB,dI,aWv]) rfl ?_)|(refine cI hT (by simp [dB,dI,D.unown,dM]) rfl ?_)|(with_reducible refine cQ ?_ ?_; focus omega)|((first|apply cG|apply cH|apply cF)<;>intro h<;>try simp only [h]))
  all_goals first|exact iP|exact iQ|exact lZ
 ·have hI:=wI w 9 (by subst hw; rfl)
  have hn:=hl hw w4
  rw [(congrArg (fO b o · n) hw).trans (aLy b o n)]
  have hH:=aGg aHs o (fB ho)
  rw [aGy ho] at hH
  have hD:=fG (yM o) (lP aGb)
  rw [aGX ho]
  refine cW o8 [] ?_
  dsimp only [o8,cT,c7]
  repeat' (first|(simp only [hI,cJ,cO,c6,List.getElem?_cons_zero,List.getElem?_cons_succ,aC,aD,aB,aE,e9,iD,aWu,aWw,↓dF,jE,o9,pA,kZ,jJ,o4,pE,kY,cR,↓wA,↓wC,wB,cL,cK,bJ,bK,bL,reduceIte,reduceCtorEq,aA,bM])|(refine cI hH (by simp [dB,dI,aWv]) rfl ?_)|(refine cI (hD) rfl rfl ?_)|(refine cM (hD) rfl rfl ?_)|(with_reducible refine cQ ?_ ?_; focus omega)|((first|apply cG|apply cH|apply cF)<;>intro h<;>try simp only [h]))
  all_goals first|exact iP|exact iQ|exact lZ
 ·have hI:=wI w 10 (by subst hw; rfl)
  have hn:=hl hw xH
  rw [(congrArg (fO b o · n) hw).trans (aL8 b o n)]
  obtain ⟨a,rfl⟩:∃ a,n=[a]:=by
   match n,hn with
   | [a],_=>exact ⟨a,rfl⟩
  have hH:=xP o a ho
  have hT:=oB _ (aBh a ho)
  rw [show n0 [a]=a from rfl,aBd a ho]
  refine cW o8 [] ?_
  dsimp only [o8,cT,c7]
  repeat' (first|(simp only [hI,cJ,List.getElem?_cons_zero,List.getElem?_cons_succ,aC,aD,aB,cY,aWu,aWw,↓dF,↓wA,↓wC,wB,bJ,bK,reduceIte,reduceCtorEq,aA])|(refine cM hH (by simp [dB,dI]) rfl ?_)|(refine cI hT (by simp [dB,dI]) rfl ?_)|(refine cM hT (by simp [dB,dI,D.unown,dM]) rfl ?_)|(with_reducible refine cQ ?_ ?_; focus omega)|((first|apply cG|apply cH|apply cF)<;>intro h<;>try simp only [h]))
  all_goals first|exact iP|exact iQ|exact lZ
 ·have hI:=wI w 11 (by subst hw; rfl)
  have hn:=hl hw wN
  rw [(congrArg (fO b o · n) hw).trans (aLw b o n)]
  obtain ⟨a,rfl⟩:∃ a,n=[a]:=by
   match n,hn with
   | [a],_=>exact ⟨a,rfl⟩
  have hH:=lY o a (fB ho)
  rw [y4 ho] at hH
  rw [show n0 [a]=a from rfl]
  refine cW o8 [] ?_
  dsimp only [o8,cT,c7]
  repeat' (first|(simp only [hI,cJ,List.getElem?_cons_zero,List.getElem?_cons_succ,aC,aD,aWu,aWw,↓dF,↓wA,↓wC,wB,bJ,bK,reduceIte,reduceCtorEq,aA])|(refine cI hH (by simp [dB,dI]) rfl ?_)|(refine cM hH (by simp [dB,dI,aWv]) rfl ?_)|(with_reducible refine cQ ?_ ?_; focus omega)|((first|apply cG|apply cH|apply cF)<;>intro h<;>try simp only [h]))
  all_goals first|exact iP|exact iQ|exact lZ
 ·rw [xE hw] at h; cases h
def oK (o:Off) (q1 q2:Nat) (v1 v2:Value):D:=dU o (.lnk q1 v1) (.lnk q2 v2)
def oLs (o:Off) (v1 v2:Value):List (Value×Nat×D):=[(v1,4,dl Cs.s o.cs),(v2,1,dl D.str o.led)]
theorem fK (o:Off) (q1 q2:Nat) (v1 v2:Value):(oK o q1 q2 v1 v2).noOwn=true:=rfl
theorem gT (o:Off) (q1 q2:Nat) (v1 v2:Value):(oK o q1 q2 v1 v2).isV=true:=rfl
theorem f8 (o:Off) (q1 q2:Nat) (v1 v2:Value):(oK o q1 q2 v1 v2).size=5:=rfl
theorem eV (o:Off) (q1 q2:Nat) (v1 v2:Value):(oK o q1 q2 v1 v2).unown=oK o q1 q2 v1 v2:=rfl
theorem jD {ob:List Ob} {K:SV->Prop} {o:Off} {q1 q2:Nat} {v1 v2:Value}:eT ob (some 5) (oK o q1 q2 v1 v2) K=K (.d (oK o q1 q2 v1 v2)):=by simp [oK,dU,eT,D.size,D.noOwn]
def qQ (ws:List (List UInt8)) (i:Nat):List Int:=(o7 (ws.take i)).getD []
theorem zX:∀ (l:List (List UInt8)) (s:List UInt8),o7 (l ++ [s])=(o7 l).bind fun a=>(kK s).map fun n=>a ++ [n]
 | [],s=>by simp only [a6,o7]; cases kK s<;>rfl
 | x :: l,s=>by
  simp only [aO,o7,zX l s]
  cases kK x with
  | none=>rfl
  | some a=>cases o7 l with
   | none=>rfl
   | some b=>cases kK s<;>rfl
theorem aAd {s:List UInt8} (h:kK s=none):∀ l:List (List UInt8),s∈l->o7 l=none
 | x :: l,hm=>by
  simp only [o7]
  cases hx:kK x with
  | none=>rfl
  | some a =>
   rcases bB.1 hm with rfl|hm
   ·rw [h] at hx; cases hx
   ·rw [aAd h l hm]; rfl
theorem tX:∀ {l:List (List UInt8)} {n:List Int},o7 l=some n->n.length=l.length
 | [],n,h=>by injection h with h; subst h; rfl
 | x :: l,n,h=>by
  simp only [o7] at h
  split at h
  ·cases hn:o7 l with
   | none=>rw [hn] at h; cases h
   | some m=>rw [hn] at h; injection h with h; subst h; simp [tX hn]
  ·cases h
theorem aEQ:∀ {l:List (List UInt8)} {n:List Int},o7 l=some n->∀ x∈n,-999999<=x/\x<=999999
 | [],n,h=>by injection h with h; subst h; intro x hx; cases hx
 | y :: l,n,h=>by
  simp only [o7] at h
  split at h
  ·rename_i a ha
   cases hn:o7 l with
   | none=>rw [hn] at h; cases h
   | some m =>
    rw [hn] at h; injection h with h; subst h
    intro x hx
    rcases bB.1 hx with rfl|hx
    ·exact (sQ ha).2
    ·exact aEQ hn x hx
  ·cases h
def rX (o:Off) (w:List UInt8) (ws:List (List UInt8)):Option (Option Off×List UInt8) :=
 match o7 ws with
 | none=>none
 | some n=>if lkp qZ w=some (n.length:Int) then
   (match l7 w n with
   | some s=>match gY o s.k s.i s.a s.v with
    | some q=>(fO o q w n).map fun r=>(some q,r)
    | none=>none
   | none=>(fO o o w n).map fun r=>(none,r))
  else none
theorem aS1 (o:Off) (w:List UInt8) (ws:List (List UInt8)):aA8 o w ws=(rX o w ws).map fun x=>(x.1.getD o,x.2):=by
 unfold aA8 rX
 cases o7 ws with
 | none=>rfl
 | some n =>
  simp only
  split
  ·cases l7 w n with
   | none=>simp only [bH]; rfl
   | some s =>
    simp only
    cases gY o s.k s.i s.a s.v with
    | none=>rfl
    | some q=>simp only [bH]; rfl
  ·rfl
def aNO (l:D) (x:Option (Option Off×List UInt8)):List D:=match x with
 | none=>[l,.str [],.bool false]
 | some (some q,r)=>[q.o,.str r,.bool true]
 | some (none,r)=>[l,.str r,.bool true]
theorem z1 {P:PG} {s:St} {KK:SV->St->Prop} {f:FuncId} {args:List Opd} {ss:List SV} {ds rs:List D} {L:List (Value×Nat×D)} (hf:FnL P f L ds (fun qs=>qs=rs)) (ha:dB s.o ss=some ds) (hL:qY s.o L) (ho:rs.all D.allOwn=true) (hk:KK (mT (dV rs s.o).1) ⟨s.e,(dV rs s.o).2⟩):lL P s f args ss KK :=
 aS0 hf ha hL fun _ e=>by subst e; exact ⟨ho,hk⟩
theorem p7 {ob:List Ob} {o:Off} {q1 q2 r1 r2:Nat} {v1 v2:Value} {ss:List SV} {K:List D->Prop} (h1:ob[q1]?=some (.tag r1 v1)) (h2:ob[r1]?=some (.val (.sl false 4 (dl Cs.s o.cs)))) (h3:ob[q2]?=some (.tag r2 v2)) (h4:ob[r2]?=some (.val (.sl false 1 (dl D.str o.led))))
  (h:tO ob ss fun ys=>K (o.s :: ys)):tO ob (.d (oK o q1 q2 v1 v2) :: ss) K:=by
 refine ⟨r1,false,4,dl Cs.s o.cs,h1,h2,r2,false,1,dl D.str o.led,h3,h4,?_⟩
 have e1:(D.sl false 4 (dl Cs.s o.cs)).unown=.sl false 4 (dl Cs.s o.cs):=by simp [D.unown,fS]
 have e2:(D.sl false 1 (dl D.str o.led)).unown=.sl false 1 (dl D.str o.led):=by simp [D.unown,fA]
 rw [e1,e2]
 exact h
theorem aEk {ob:List Ob} {r:Nat} {n:List Int} {ss:List SV} {K:List D->Prop} (h1:ob[r]?=some (.val (.sl true 1 (dl iD n)))) (h:tO ob ss fun ys=>K (.sl false 1 (dl iD n) :: ys)):tO ob (.own r :: ss) K:=by
 refine ⟨_,h1,?_⟩
 rw [show (D.sl true 1 (dl iD n)).unown=.sl false 1 (dl iD n) by simp [D.unown,dM]]
 exact h
theorem aDR {ob:List Ob} {x:List UInt8} {ss:List SV} {K:List D->Prop} (h:tO ob ss fun ys=>K (.str x :: ys)):tO ob (.d (.str x) :: ss) K:=h
theorem aGp {r:List UInt8} {rs:List D} (h:aK4 (some r) rs):rs=[.str r,.bool true]:=by
 obtain ⟨t,rfl,ht⟩:=h
 rw [ht r rfl]; rfl
theorem aKp {rs:List D} (h:aK4 none rs):∃ t,rs=[.str t,.bool false]:=by
 obtain ⟨t,rfl,_⟩:=h
 exact ⟨t,rfl⟩
theorem aHX {o q:Off} {w:List UInt8} {n:List Int} {s:Stp} (h:l7 w n=some s) (hq:gY o s.k s.i s.a s.v=some q):∃ r,fO o q w n=some r:=by
 rcases oW w with rfl|rfl|rfl|rfl|rfl|rfl|rfl|rfl|rfl|rfl|rfl|rfl|hn
 ·exact ⟨_,aMX o q n⟩
 ·rw [aJK]; rw [aJs] at h; injection h with h; subst h; exact nO (.inl rfl) hq
 ·rw [aLI]; rw [aNl] at h; injection h with h; subst h; exact nO (.inr (.inl rfl)) hq
 ·rw [aD0]; rw [aDW] at h; injection h with h; subst h
  obtain ⟨l,hl⟩:=aEb hq
  rw [hl]; exact ⟨_,rfl⟩
 ·rw [aJE]; rw [aJv] at h; injection h with h; subst h; exact nO (.inr (.inr rfl)) hq
 ·exact ⟨_,aRT o q n⟩
 ·rw [aMS] at h; cases h
 ·rw [aM6] at h; cases h
 ·rw [aAz] at h; cases h
 ·rw [aIN] at h; cases h
 ·rw [aIA] at h; cases h
 ·rw [aHK] at h; cases h
 ·obtain ⟨h0,h1,h2,h3,h4,h5,_⟩:=hn
  unfold l7 at h
  rw [if_neg h0,if_neg h1,if_neg h2,if_neg h3,if_neg h4,if_neg h5] at h
  cases h
theorem aKW (o:Off) (v1 v2:Value) (w:List UInt8) (ws:List (List UInt8)) (ho:dO o=true) (hl:ws.length<=1000) (hs:∀ s∈ws,s.length<=1000) :
  FnL prog 37 (oLs o v1 v2) [oK o 2 3 v1 v2,.sl false 1 (dl D.str (w :: ws))] (fun rs=>rs=aNO (oK o 2 3 v1 v2) (rX o w ws)):=by
 have hoz:aDr.o.size=5:=rfl
 have hqo:∀ q:Off,q.o.noOwn=false:=aWO
 have hfold:(D.st (.cons (.int .i64 o.day) (.cons (.sl false 4 (dl Cs.s o.cs)) (.cons (.int .i64 o.kept) (.cons (.int .i64 o.moved) (.cons (.sl false 1 (dl D.str o.led)) .nil))))))=o.s:=rfl
 have hsub:((w :: ws).take (ws.length + 1)).drop (Int.toNat 1)=ws:=by simp
 refine aST aUC [[1,1,1,1,1,1,0,1,1,0,0]] ?_
 dsimp only [aUC,cT,c7]
 simp only [oLs,z7,aFk,aFq,bA,List.map_nil,aO,a6]
 repeat' (first|(simp only [cJ,fK,gT,f8,eV,↓jD,cO,pR,hsub,cR,aC,↓wA,↓wC,wB,cL,cK,bJ,bK,bL,reduceIte,reduceCtorEq,aA,bM,dE])|(with_reducible refine cQ ?_ ?_; focus omega)|((first|apply cG|apply cH|apply cF)<;>intro h<;>try simp only [h]))
 refine qO [(7,1)] ws.length (fun i:Nat=>⟨[(1,.d (.sl false 1 (dl D.str (w :: ws)))),(2,.ptr 4 0 []),(4,.ptr 5 0 []),(7,.own 6),(23,.d (.sl false 1 (dl D.str ws))),(24,.d (.int .i64 ws.length)),(25,.d (.int .i64 i))],[.val (.sl false 4 (dl Cs.s o.cs)),.val (.sl false 1 (dl D.str o.led)),.tag 0 v1,.tag 1 v2,.box (oK o 2 3 v1 v2),.box aDr.o,.val (.sl true 1 (dl iD (qQ ws i)))]⟩) (fun i=>o7 (ws.take i)=some (qQ ws i)) ⟨rfl,trivial⟩ (cU _ rfl ⟨⟨rfl,rfl⟩,⟨rfl,rfl⟩,⟨rfl,rfl⟩,⟨rfl,rfl⟩,⟨rfl,rfl⟩,⟨rfl,rfl⟩,⟨rfl,rfl⟩,trivial⟩) rfl ?_ ?_
 ·intro i hlt hin hd h0
  obtain ⟨s,hr⟩:=dP hlt
  have hP:=aGx s (by have:=hs s (aH hr); omega)
  have hlen:=tX hin
  rw [aM,aZ (by omega)] at hlen
  unfold rdR at hP
  cases hn:kK s with
  | none =>
   rw [hn] at hP
   have hg:rX o w ws=none:=by unfold rX; rw [aAd hn ws (aH hr)]
   rw [hg]
   repeat' (first|(simp only [hd,h0,hr,aT,aB,cJ,cO,c6,fK,gT,f8,eV,↓jD,↓wA,↓wC,wB,cL,cK,bJ,bK,bL,reduceIte,reduceCtorEq,aA,bM,dE])|(refine cI (hP) rfl rfl ?_)|(refine cM (hP) rfl rfl ?_)|((first|apply cG|apply cH|apply cF)<;>intro h<;>try simp only [h]))
   exact cQ rfl (cQ rfl (fD _ rfl rfl))
  | some n =>
   rw [hn] at hP
   have hu:o7 (ws.take (i + 1))=some (qQ ws i ++ [n]):=by rw [e7 hr,zX,hin,hn]; rfl
   have hu2:qQ ws (i + 1)=qQ ws i ++ [n]:=by unfold qQ at hu ⊢; rw [hu]; rfl
   repeat' (first|(simp only [hd,h0,hr,aT,aB,cJ,cO,c6,fK,gT,f8,eV,↓jD,↓wA,↓wC,wB,cL,cK,bJ,bK,bL,reduceIte,reduceCtorEq,aA,bM,dE])|(refine cI (hP) rfl rfl ?_)|(refine cM (hP) rfl rfl ?_)|(refine cQ (fun e=>by cases e) ?_)|(with_reducible refine cQ ?_ ?_; focus omega)|(with_reducible refine cP ?_ ?_; focus (simp only [dX]; omega))|((first|apply cG|apply cH|apply cF)<;>intro h<;>try simp only [h]))
   refine ⟨i + 1,?_,⟨by omega,by rw [hu2]; exact hu⟩,by omega⟩
   rw [hu2,<-iJ (f:=iD)]
   exact (cU _ rfl ⟨⟨rfl,rfl⟩,⟨rfl,rfl⟩,⟨rfl,rfl⟩,⟨rfl,rfl⟩,⟨rfl,rfl⟩,⟨rfl,rfl⟩,⟨rfl,rfl⟩,trivial⟩)
 ·intro hin hd
  rw [bE] at hin
  have hbd:=aEQ hin
  have hlen:=tX hin
  generalize qQ ws ws.length=n at hin hbd hlen
  have hw0:(w :: ws)[0]?=some w:=rfl
  cases hk:lkp qZ w with
  | none =>
   have hg:rX o w ws=none:=by unfold rX; rw [hin]; simp only [hk]; exact if_neg (fun e=>by cases e)
   rw [hg]
   repeat' (first|(simp only [hd,cJ,c6,hw0,hk,aG,aB,Option.isSome_none,fK,gT,f8,eV,↓jD,↓wA,↓wC,wB,cL,cK,bJ,bK,bL,reduceIte,reduceCtorEq,aA,bM,dE])|(with_reducible refine cQ ?_ ?_; focus omega)|(refine cQ rfl ?_)|((first|apply cG|apply cH|apply cF)<;>intro h<;>try simp only [h]))
   exact fD _ rfl rfl
  | some m =>
   by_cases hm:m=(n.length:Int)
   ·subst hm
    have hdm:decide ((n.length:Int)=(n.length:Int))=true:=decide_eq_true rfl
    have hF:=aId w n hk
    cases hst:l7 w n with
    | none =>
     rw [hst] at hF
     simp only [aTd,jZ] at hF
     have hR:=aBX o o w n ho ho hk
     cases hr:fO o o w n with
     | none =>
      rw [hr] at hR
      have hg:rX o w ws=none:=by unfold rX; rw [hin]; simp [hk,hst,hr]
      rw [hg]
      repeat' (first|(simp only [hd,cJ,c6,cO,hw0,hk,hdm,aG,aB,aK,aI,fK,gT,f8,eV,↓jD,↓wA,↓wC,wB,cL,cK,bJ,bK,bL,reduceIte,reduceCtorEq,aA,bM,dE])|(with_reducible refine cQ ?_ ?_; focus omega)|(refine cQ rfl ?_)|(refine cI hF (by simp [dB,dI,lE,D.unown,dM]) rfl ?_)|(refine dL ?_)|(with_reducible refine aF ?_ ?_)|((first|apply cG|apply cH|apply cF)<;>intro h<;>try simp only [h]))
      all_goals
       refine aB3 (p7 rfl rfl rfl rfl (p7 rfl rfl rfl rfl (aDR (aEk rfl ⟨_,hR,?_⟩))))
       intro rs h
       obtain ⟨t,rfl⟩:=aKp h
       refine ⟨rfl,?_⟩
       repeat' (first|(simp only [cJ,fK,gT,f8,eV,↓jD,↓wA,↓wC,wB,cL,cK,bJ,bK,bL,reduceIte,reduceCtorEq,aA,bM,dE])|((first|apply cG|apply cH|apply cF)<;>intro h<;>try simp only [h]))
       exact cQ rfl (cQ rfl (fD _ rfl rfl))
     | some r =>
      rw [hr] at hR
      have hg:rX o w ws=some (none,r):=by unfold rX; rw [hin]; simp [hk,hst,hr]
      rw [hg]
      repeat' (first|(simp only [hd,cJ,c6,cO,hw0,hk,hdm,aG,aB,aK,aI,fK,gT,f8,eV,↓jD,↓wA,↓wC,wB,cL,cK,bJ,bK,bL,reduceIte,reduceCtorEq,aA,bM,dE])|(with_reducible refine cQ ?_ ?_; focus omega)|(refine cQ rfl ?_)|(refine cI hF (by simp [dB,dI,lE,D.unown,dM]) rfl ?_)|(refine dL ?_)|(with_reducible refine aF ?_ ?_)|((first|apply cG|apply cH|apply cF)<;>intro h<;>try simp only [h]))
      all_goals
       refine aB3 (p7 rfl rfl rfl rfl (p7 rfl rfl rfl rfl (aDR (aEk rfl ⟨_,hR,?_⟩))))
       intro rs h
       obtain rfl:=aGp h
       refine ⟨rfl,?_⟩
       repeat' (first|(simp only [cJ,fK,gT,f8,eV,↓jD,↓wA,↓wC,wB,cL,cK,bJ,bK,bL,reduceIte,reduceCtorEq,aA,bM,dE])|((first|apply cG|apply cH|apply cF)<;>intro h<;>try simp only [h]))
       exact cQ rfl (cQ rfl (fD _ rfl rfl))
    | some s =>
     rw [hst] at hF
     simp only [aTd,jZ] at hF
     have hT:=aGP o s.k s.i s.a s.v (fB ho)
     cases hq:gY o s.k s.i s.a s.v with
     | none =>
      rw [hq] at hT
      simp only [tD,jZ] at hT
      have hg:rX o w ws=none:=by unfold rX; rw [hin]; simp [hk,hst,hq]
      rw [hg]
      repeat' (first|(simp only [hd,cJ,c6,cO,hw0,hk,hdm,aG,aB,aK,aI,fK,gT,f8,eV,↓jD,↓wA,↓wC,wB,cL,cK,bJ,bK,bL,reduceIte,reduceCtorEq,aA,bM,dE])|(with_reducible refine cQ ?_ ?_; focus omega)|(refine cQ rfl ?_)|(refine cI hF (by simp [dB,dI,lE,D.unown,dM]) rfl ?_)|((first|apply cG|apply cH|apply cF)<;>intro h<;>try simp only [h]))
      refine c8 (gO.refl _) ?_
      repeat' (first|(simp only [cJ,fK,gT,f8,eV,↓jD,↓wA,↓wC,wB,cL,cK,bJ,bK,bL,reduceIte,reduceCtorEq,aA,bM,dE])|((first|apply cG|apply cH|apply cF)<;>intro h<;>try simp only [h]))
      refine aB3 (p7 rfl rfl rfl rfl ⟨_,hT,?_⟩)
      rintro _ rfl
      refine ⟨by simp [aWQ,D.allOwn],?_⟩
      repeat' (first|(simp only [cJ,hqo,aWP,aWM,fK,gT,f8,eV,↓jD,↓wA,↓wC,wB,cL,cK,bJ,bK,bL,reduceIte,reduceCtorEq,aA,bM,dE])|(refine cQ rfl ?_)|((first|apply cG|apply cH|apply cF)<;>intro h<;>try simp only [h]))
      exact fD _ rfl rfl
     | some q =>
      rw [hq] at hT
      simp only [tD,jZ] at hT
      obtain ⟨r,hr⟩:=aHX hst hq
      have hg:rX o w ws=some (some q,r):=by unfold rX; rw [hin]; simp [hk,hst,hq,hr]
      rw [hg]
      have hR:=aBX o q w n ho (x7 hq) hk
      rw [hr] at hR
      have hR:=aJn hR fun _ h=>aGp h
      repeat' (first|(simp only [hd,cJ,c6,cO,hw0,hk,hdm,aG,aB,aK,aI,fK,gT,f8,eV,↓jD,↓wA,↓wC,wB,cL,cK,bJ,bK,bL,reduceIte,reduceCtorEq,aA,bM,dE])|(with_reducible refine cQ ?_ ?_; focus omega)|(refine cQ rfl ?_)|(refine cI hF (by simp [dB,dI,lE,D.unown,dM]) rfl ?_)|((first|apply cG|apply cH|apply cF)<;>intro h<;>try simp only [h]))
      refine c8 (s':=⟨[(1,.d (.sl false 1 (dl D.str (w :: ws)))),(2,.ptr 4 0 []),(4,.ptr 5 0 []),(7,.own 6),(15,.ptr 8 0 []),(16,.ptr 9 0 [])],[.dead,.dead,.tag 0 v1,.tag 1 v2,.box o.s,.box aDr.o,.val (.sl true 1 (dl iD n)),.mp qZ,.box (oK o 2 3 v1 v2),.box (jZ s.k s.i s.a s.v)]⟩) ((gA 4 2 0 none [1] rfl rfl rfl rfl (by decide) rfl).trans ((gA 4 3 1 none [4] rfl rfl rfl rfl (by decide) rfl).trans (cU [] rfl ⟨⟨rfl,rfl⟩,⟨rfl,rfl⟩,⟨rfl,rfl⟩,⟨rfl,rfl⟩,⟨rfl,rfl⟩,⟨rfl,rfl⟩,trivial⟩))) ?_
      simp only [jZ]
      repeat' (first|(simp only [cJ,hqo,aWu,aWw,aWz,↓dF,aWP,aWM,↓wA,↓wC,wB,cL,cK,bJ,bK,bL,reduceIte,reduceCtorEq,aA,bM,dE])|(refine cQ rfl ?_)|(refine dL ?_)|(with_reducible refine aF ?_ ?_)|(refine cI hT (by simp [dB,dI,aWv]) rfl ?_)|((first|apply cG|apply cH|apply cF)<;>intro h<;>try simp only [h]))
      refine fD (.cons (.int .i64 q.day) (.cons (.sl true 4 (dl Cs.o q.cs)) (.cons (.int .i64 q.kept) (.cons (.int .i64 q.moved) (.cons (.sl true 1 (dl D.str q.led)) .nil))))) rfl (cQ rfl (cQ rfl ?_))
      rw [show D.st (.cons (.int .i64 q.day) (.cons (.sl true 4 (dl Cs.o q.cs)) (.cons (.int .i64 q.kept) (.cons (.int .i64 q.moved) (.cons (.sl true 1 (dl D.str q.led)) .nil)))))=q.o from rfl]
      repeat' (first|(simp only [cJ,c6,hw0,aG,aB,hqo,aWu,aWw,aWz,↓dF,aWP,aWM,↓wA,↓wC,wB,cL,cK,bJ,bK,bL,reduceIte,reduceCtorEq,aA,bM,dE])|(with_reducible refine cQ ?_ ?_; focus omega)|(refine cQ rfl ?_)|(refine dL ?_)|(with_reducible refine aF ?_ ?_)|(refine cI hR (by show some [o.s,q.o.unown,D.str w,(D.sl true 1 (dl iD n)).unown]=_; rw [aWH]; simp [D.unown,dM]) rfl ?_)|((first|apply cG|apply cH|apply cF)<;>intro h<;>try simp only [h]))
      all_goals exact fD _ rfl (cQ rfl (cQ rfl (cQ rfl rfl)))
   ·have hdm:decide (m=(n.length:Int))=false:=decide_eq_false hm
    have hg:rX o w ws=none:=by unfold rX; rw [hin]; simp only [hk]; exact if_neg (fun e=>by injection e with e; exact hm e)
    rw [hg]
    repeat' (first|(simp only [hd,cJ,c6,cO,hw0,hk,hdm,aG,aB,aK,aI,fK,gT,f8,eV,↓jD,↓wA,↓wC,wB,cL,cK,bJ,bK,bL,reduceIte,reduceCtorEq,aA,bM,dE])|(with_reducible refine cQ ?_ ?_; focus omega)|(refine cQ rfl ?_)|((first|apply cG|apply cH|apply cF)<;>intro h<;>try simp only [h]))
    exact fD _ rfl rfl
theorem aIj (q1 q2 q3 q4:Nat) (o:Off) (v1 v2:Value) (w:List UInt8) (ws:List (List UInt8)) (ho:dO o=true) (hl:ws.length<=1000) (hs:∀ s∈ws,s.length<=1000) :
  FnL prog 37 (oLs o v1 v2) [oK o q1 q2 v1 v2,.sl false 1 (dl D.str (w :: ws))] (fun rs=>rs=aNO (oK o q3 q4 v1 v2) (rX o w ws)):=by
 intro M vs w0 hM hg hL hv
 refine (aKW o v1 v2 w ws ho hl hs M vs w0 hM hg hL hv).mono ?_
 rintro e w' ⟨rs,us,fp,h1,rfl,h2,h3⟩
 refine ⟨_,us,fp,h1,rfl,?_,h3⟩
 cases ha:rX o w ws with
 | none=>rw [ha] at h2; exact h2
 | some y =>
  obtain ⟨_|q,r⟩:=y
  ·rw [ha] at h2; exact h2
  ·rw [ha] at h2; exact h2
def aCv (d p:List UInt8) (k:Int) (c r:List UInt8):List UInt8×List UInt8×Int :=
 if lv d p k=true/\gG c r=true then (if k=60 then (d,p,k) else (d,p ++ (mB k c r ++ [10]),k + 1)) else (d,p,k)
theorem sR (d p:List UInt8) (k:Int) (c r:List UInt8):∃ n,aLd d p k c r=[fE (aCv d p k c r).1 (aCv d p k c r).2.1 (aCv d p k c r).2.2,.int .i64 n]:=by
 unfold aLd aCv
 split
 ·split<;>exact ⟨_,rfl⟩
 ·exact ⟨_,rfl⟩
def aAY (r:List UInt8):List UInt8:=if 200 < (r.length:Int) then [108,111,110,103] else r
def exA (x:Con) (l:List UInt8) (a:Option (Off×List UInt8)):Con×List UInt8 :=
 let r:=aAY ((a.map (·.2)).getD qm)
 let g:=aCv x.d x.p x.c l r
 (⟨(a.map (·.1)).getD x.o,g.1,g.2.1,g.2.2⟩,r)
def exC (x:Con) (l:List UInt8):Con×List UInt8 :=
 if nZ x=true then
  if gG l []=true then
   if x.c=60 then (x,[102,117,108,108]) else exA x l (aA8 x.o ((parts 32 l).headD []) (parts 32 l).tail)
  else (x,[98,97,100])
 else (x,[110,111])
theorem aHq (x:UInt8) (s:List UInt8):∃ w ws,parts x s=w :: ws:=by
 have h:=r9 x s
 cases hp:parts x s with
 | nil=>rw [hp] at h; cases h
 | cons w ws=>exact ⟨w,ws,rfl⟩
theorem aCX (x:Con) (h:x.ok0):Fn prog 35 [x.s] (fun rs=>rs=[x.o']):=by
 have hC:=vW x.o h.1
 refine cW aTK [[1,0]] ?_
 dsimp only [aTK,cT,c7]
 repeat' (first|(simp only [aWx,aWy,cJ,↓wA,↓wC,wB,cL,cK,bJ,bK,bL,reduceIte,reduceCtorEq,aA,bM,eP])|((first|apply cG|apply cH|apply cF)<;>intro h<;>try simp only [h]))
 refine c8 (gI 0 rfl) ?_
 simp only [cL,cK,aWB,↓wA,↓wC,wB,cL,cK,bJ,bK,bL,reduceIte,reduceCtorEq,aA,bM,eP]
 repeat' (first|(simp only [gD,yP,pB,lB,qH,lC,eG,jL,g8,↓dF,↓kD,aWx,aWy,aWu,aWw,aWP,aWM,aWO,cJ,↓wA,↓wC,wB,cL,cK,bJ,bK,bL,reduceIte,reduceCtorEq,aA,bM,eP])|(refine cQ rfl ?_)|(refine dL ?_)|(with_reducible refine aF ?_ ?_)|(refine cI hC (by simp [dB,dI,aWv]) rfl ?_)|((first|apply cG|apply cH|apply cF)<;>intro h<;>try simp only [h]))
 all_goals rfl
def aPC:D:=oZ aDr.o (fE [] [] 0)
theorem aWK (x:Con):x.o'.noOwn=false:=by simp [Con.o',oZ,D.noOwn,aWO]
theorem aMG {x:Con} {l:List UInt8} (h:nZ x=false):exC x l=(x,[110,111]):=by unfold exC; rw [if_neg (by rw [h]; decide)]
theorem aJp {x:Con} {l:List UInt8} (h:nZ x=true) (h2:gG l []=false):exC x l=(x,[98,97,100]):=by unfold exC; rw [if_pos h,if_neg (by rw [h2]; decide)]
theorem aGH {x:Con} {l:List UInt8} (h:nZ x=true) (h2:gG l []=true) (h3:x.c=60):exC x l=(x,[102,117,108,108]):=by unfold exC; rw [if_pos h,if_pos h2,if_pos h3]
theorem aNy {x:Con} {l w:List UInt8} {ws:List (List UInt8)} (h:nZ x=true) (h2:gG l []=true) (h3:¬ x.c=60) (hp:parts 32 l=w :: ws):exC x l=exA x l (aA8 x.o w ws):=by
 unfold exC; rw [if_pos h,if_pos h2,if_neg h3,hp]; rfl
theorem aAT (x:Con) (l:List UInt8) (h:x.ok0) (hl:l.length<=1048576):Fn prog 13 [x.s,.str l] (fun rs=>rs=[(exC x l).1.o',.str (exC x l).2]):=by
 have hV:=qX x h
 have hC:=aCX x h
 have hml:l.length<=maxLen:=by rw [eD]; omega
 have hR:=nL l [] hml (by rw [eD]; decide)
 cases hv:nZ x with
 | false =>
  rw [hv] at hV
  rw [aMG hv]
  refine cW aHh [] ?_
  dsimp only [aHh,cT,c7]
  repeat' (first|(simp only [aWx,aWy,aWA,↓eA,aWK,aWL,aWI,cJ,↓wA,↓wC,wB,cL,cK,bJ,bK,bL,reduceIte,reduceCtorEq,aA,bM,eP])|(refine cQ rfl ?_)|(refine cI hV (by simp [dB,dI,aWB]) rfl ?_)|(refine cI hC (by simp [dB,dI]) rfl ?_)|((first|apply cG|apply cH|apply cF)<;>intro h<;>try simp only [h]))
  exact fD _ rfl rfl
 | true =>
  rw [hv] at hV
  cases hr:gG l [] with
  | false =>
   rw [hr] at hR
   rw [aJp hv hr]
   refine cW aHh [] ?_
   dsimp only [aHh,cT,c7]
   repeat' (first|(simp only [aWx,aWy,aWA,↓eA,aWK,aWL,aWI,cJ,↓wA,↓wC,wB,cL,cK,bJ,bK,bL,reduceIte,reduceCtorEq,aA,bM,eP])|(refine cQ rfl ?_)|(refine cI hV (by simp [dB,dI,aWB]) rfl ?_)|(refine cI hC (by simp [dB,dI,aWB]) rfl ?_)|(refine cI hR rfl rfl ?_)|((first|apply cG|apply cH|apply cF)<;>intro h<;>try simp only [h]))
   exact fD _ rfl rfl
  | true =>
   rw [hr] at hR
   by_cases hc:x.c=60
   ·have hd:decide (x.c=60)=true:=decide_eq_true hc
    rw [aGH hv hr hc]
    refine cW aHh [] ?_
    dsimp only [aHh,cT,c7]
    repeat' (first|(simp only [hd,pT,qA,aWx,aWy,aWA,↓eA,aWK,aWL,aWI,cJ,↓wA,↓wC,wB,cL,cK,bJ,bK,bL,reduceIte,reduceCtorEq,aA,bM,eP])|(refine cQ rfl ?_)|(refine cI hV (by simp [dB,dI,aWB]) rfl ?_)|(refine cI hC (by simp [dB,dI,aWB]) rfl ?_)|(refine cI hR rfl rfl ?_)|((first|apply cG|apply cH|apply cF)<;>intro h<;>try simp only [h]))
    exact fD _ rfl rfl
   ·have hd:decide (x.c=60)=false:=decide_eq_false hc
    obtain ⟨w,ws,hp⟩:=aHq 32 l
    rw [aNy hv hr hc hp]
    have hP:=aGF l 32 (by omega)
    rw [hp] at hP
    refine cW aHh [[1,1,1,1,1,0,0],[1,1,1,1,1,0,0],[1,1,1,0],[1,1,1,0],[1,1,1,0]] ?_
    dsimp only [aHh,cT,c7]
    repeat' (first|(simp only [hd,pT,qA,aWx,aWy,aWA,↓eA,aWK,aWL,aWI,cJ,↓wA,↓wC,wB,cL,cK,bJ,bK,bL,reduceIte,reduceCtorEq,aA,bM,eP])|(refine cQ rfl ?_)|(refine cI hV (by simp [dB,dI,aWB]) rfl ?_)|(refine cI hC (by simp [dB,dI,aWB]) rfl ?_)|(refine cI hR rfl rfl ?_)|((first|apply cG|apply cH|apply cF)<;>intro h<;>try simp only [h]))
    refine eI _ (eZ 3 none [0,1] (es:=4) (xs:=dl Cs.o x.o.cs) rfl rfl) fun v1=>?_
    simp only [dY,cX,cR,eG,cJ,↓wA,↓wC,wB,cL,cK,bJ,bK,bL,reduceIte,reduceCtorEq,aA,bM,eP]
    refine eI _ (eZ 3 none [0,4] (es:=1) (xs:=dl D.str x.o.led) rfl rfl) fun v2=>?_
    simp only [dY,cX,cR,eG,cJ,↓wA,↓wC,wB,cL,cK,bJ,bK,bL,reduceIte,reduceCtorEq,aA,bM,eP]
    refine c8 (s':=⟨[(1,.d (.str l)),(4,.ptr 1 0 []),(6,.ptr 3 0 [])],[.box x.s,.box aPC,.dead,.box (oZ (oK x.o 5 7 v1 v2) (fE x.d x.p x.c)),.val (.sl true 4 (dl Cs.o x.o.cs)),.tag 4 v1,.val (.sl true 1 (dl D.str x.o.led)),.tag 6 v2]⟩) (cU _ rfl ⟨⟨rfl,rfl⟩,⟨rfl,rfl⟩,⟨rfl,rfl⟩,trivial⟩) ?_
    have hso:=mN hr
    have hws:∀ s∈w :: ws,s.length<=1000:=fun s hs=>by
     rw [<- hp] at hs
     have:=yX 32 l s hs
     omega
    have hwl:ws.length<=1000:=by
     have h1:=aEa 32 l
     rw [hp,aC] at h1
     omega
    have hoff:dO x.o=true:=by
     simp only [nZ,aL] at hv
     exact hv.1
    have hA:=aIj 5 7 5 7 x.o v1 v2 w ws hoff hwl (fun s hs=>hws s (aP _ hs))
    have hg0:gU [0] (oZ (oK x.o 5 7 v1 v2) (fE x.d x.p x.c))=some (oK x.o 5 7 v1 v2):=rfl
    have hg1:fL [0] (oZ (oK x.o 5 7 v1 v2) (fE x.d x.p x.c))=0:=rfl
    rw [aS1]
    cases ha:rX x.o w ws with
    | none =>
     rw [ha] at hA
     simp only [aNO] at hA
     repeat' (first|(simp only [cJ,hg0,hg1,fK,gT,f8,eV,↓jD,↓wA,↓wC,wB,cL,cK,bJ,bK,bL,reduceIte,reduceCtorEq,aA,bM,eP])|(refine cQ rfl ?_)|(refine dL ?_)|(with_reducible refine aF ?_ ?_)|(refine cI hP rfl rfl ?_)|(refine z1 hA (by simp [dB,dI,lE,D.unown,vN,eV]) ⟨⟨5,4,true,dl Cs.o x.o.cs,rfl,rfl,(rP _).symm⟩,⟨7,6,true,dl D.str x.o.led,rfl,rfl,(fA _).symm⟩,trivial⟩ (by simp [D.allOwn,aWQ,oK,dU]) ?_)|((first|apply cG|apply cH|apply cF)<;>intro h<;>try simp only [h]))
     all_goals
      refine c8 (gA 3 5 4 none [0,1] (v:=v1) (ow:=true) (es:=4) (xs:=dl Cs.o x.o.cs) (ob:=.box (oZ (oK x.o 5 7 v1 v2) (fE x.d x.p x.c))) (ob':=.box (oZ (dU x.o (.sl true 4 (dl Cs.o x.o.cs)) (.lnk 7 v2)) (fE x.d x.p x.c))) rfl rfl rfl rfl (by decide) rfl) ?_
      simp only [↓wA,↓wC,wB,cL,cK,bJ,bK,bL,reduceIte,reduceCtorEq,aA,bM,eP]
      refine c8 (gA 3 7 6 none [0,4] (v:=v2) (ow:=true) (es:=1) (xs:=dl D.str x.o.led) (ob:=.box (oZ (dU x.o (.sl true 4 (dl Cs.o x.o.cs)) (.lnk 7 v2)) (fE x.d x.p x.c))) (ob':=.box x.o') rfl rfl rfl rfl (by decide) rfl) ?_
      simp only [Option.map_none,bF,exA]
      have hdl:decide ((200:Int) < ((1:Nat):Int))=false:=rfl
      rw [show aAY qm=[63] from rfl]
      have hs1:gU [1] (x).o'=some (fE x.d x.p x.c):=rfl
      have hs2:fL [1] (x).o'=5:=rfl
      have hds:∀ a b c,kC [1] (x).o' (fE a b c)=(Con.mk (x).o a b c).o':=fun _ _ _=>rfl
      obtain ⟨nn,hap⟩:=sR x.d x.p x.c l [63]
      have hAp:=lT x.d x.p x.c l [63] h.2 hml (by rw [eD]; first|decide|omega)
      rw [hap] at hAp
      simp only [mV] at hAp
      repeat' (first|(simp only [cJ,hs1,hs2,hds,hdl,eG,jL,g8,↓kD,aWK,aWL,aWI,↓wA,↓wC,wB,cL,cK,bJ,bK,bL,reduceIte,reduceCtorEq,aA,bM,eP])|(refine cQ rfl ?_)|(refine cI hAp rfl rfl ?_)|((first|apply cG|apply cH|apply cF)<;>intro h<;>try simp only [h]))
      all_goals exact fD _ rfl (cQ rfl (cQ rfl (cQ rfl rfl)))
    | some y =>
     obtain ⟨yo,r⟩:=y
     cases yo with
     | none =>
      rw [ha] at hA
      simp only [aNO] at hA
      repeat' (first|(simp only [cJ,hg0,hg1,fK,gT,f8,eV,↓jD,↓wA,↓wC,wB,cL,cK,bJ,bK,bL,reduceIte,reduceCtorEq,aA,bM,eP])|(refine cQ rfl ?_)|(refine dL ?_)|(with_reducible refine aF ?_ ?_)|(refine cI hP rfl rfl ?_)|(refine z1 hA (by simp [dB,dI,lE,D.unown,vN,eV]) ⟨⟨5,4,true,dl Cs.o x.o.cs,rfl,rfl,(rP _).symm⟩,⟨7,6,true,dl D.str x.o.led,rfl,rfl,(fA _).symm⟩,trivial⟩ (by simp [D.allOwn,aWQ,oK,dU]) ?_)|((first|apply cG|apply cH|apply cF)<;>intro h<;>try simp only [h]))
      all_goals
       refine c8 (gA 3 5 4 none [0,1] (v:=v1) (ow:=true) (es:=4) (xs:=dl Cs.o x.o.cs) (ob:=.box (oZ (oK x.o 5 7 v1 v2) (fE x.d x.p x.c))) (ob':=.box (oZ (dU x.o (.sl true 4 (dl Cs.o x.o.cs)) (.lnk 7 v2)) (fE x.d x.p x.c))) rfl rfl rfl rfl (by decide) rfl) ?_
       simp only [↓wA,↓wC,wB,cL,cK,bJ,bK,bL,reduceIte,reduceCtorEq,aA,bM,eP]
       refine c8 (gA 3 7 6 none [0,4] (v:=v2) (ow:=true) (es:=1) (xs:=dl D.str x.o.led) (ob:=.box (oZ (dU x.o (.sl true 4 (dl Cs.o x.o.cs)) (.lnk 7 v2)) (fE x.d x.p x.c))) (ob':=.box x.o') rfl rfl rfl rfl (by decide) rfl) ?_
       simp only [aB,aI,bF,exA]
       by_cases hlong:200 < (r.length:Int)
       ·have hdl:decide (200 < (r.length:Int))=true:=decide_eq_true hlong
        rw [show aAY r=[108,111,110,103] from if_pos hlong]
        have hs1:gU [1] (x).o'=some (fE x.d x.p x.c):=rfl
        have hs2:fL [1] (x).o'=5:=rfl
        have hds:∀ a b c,kC [1] (x).o' (fE a b c)=(Con.mk (x).o a b c).o':=fun _ _ _=>rfl
        obtain ⟨nn,hap⟩:=sR x.d x.p x.c l [108,111,110,103]
        have hAp:=lT x.d x.p x.c l [108,111,110,103] h.2 hml (by rw [eD]; first|decide|omega)
        rw [hap] at hAp
        simp only [mV] at hAp
        repeat' (first|(simp only [cJ,hs1,hs2,hds,hdl,eG,jL,g8,↓kD,aWK,aWL,aWI,↓wA,↓wC,wB,cL,cK,bJ,bK,bL,reduceIte,reduceCtorEq,aA,bM,eP])|(refine cQ rfl ?_)|(refine cI hAp rfl rfl ?_)|((first|apply cG|apply cH|apply cF)<;>intro h<;>try simp only [h]))
        all_goals exact fD _ rfl (cQ rfl (cQ rfl (cQ rfl rfl)))
       ·have hdl:decide (200 < (r.length:Int))=false:=decide_eq_false hlong
        rw [show aAY r=r from if_neg hlong]
        have hs1:gU [1] (x).o'=some (fE x.d x.p x.c):=rfl
        have hs2:fL [1] (x).o'=5:=rfl
        have hds:∀ a b c,kC [1] (x).o' (fE a b c)=(Con.mk (x).o a b c).o':=fun _ _ _=>rfl
        obtain ⟨nn,hap⟩:=sR x.d x.p x.c l r
        have hAp:=lT x.d x.p x.c l r h.2 hml (by rw [eD]; first|decide|omega)
        rw [hap] at hAp
        simp only [mV] at hAp
        repeat' (first|(simp only [cJ,hs1,hs2,hds,hdl,eG,jL,g8,↓kD,aWK,aWL,aWI,↓wA,↓wC,wB,cL,cK,bJ,bK,bL,reduceIte,reduceCtorEq,aA,bM,eP])|(refine cQ rfl ?_)|(refine cI hAp rfl rfl ?_)|((first|apply cG|apply cH|apply cF)<;>intro h<;>try simp only [h]))
        all_goals exact fD _ rfl (cQ rfl (cQ rfl (cQ rfl rfl)))
     | some q =>
      rw [ha] at hA
      simp only [aNO] at hA
      repeat' (first|(simp only [cJ,aWO,aWP,aWM,hg0,hg1,fK,gT,f8,eV,↓jD,↓wA,↓wC,wB,cL,cK,bJ,bK,bL,reduceIte,reduceCtorEq,aA,bM,eP])|(refine cQ rfl ?_)|(refine dL ?_)|(with_reducible refine aF ?_ ?_)|(refine cI hP rfl rfl ?_)|(refine z1 hA (by simp [dB,dI,lE,D.unown,vN,eV]) ⟨⟨5,4,true,dl Cs.o x.o.cs,rfl,rfl,(rP _).symm⟩,⟨7,6,true,dl D.str x.o.led,rfl,rfl,(fA _).symm⟩,trivial⟩ (by simp [D.allOwn,aWQ,oK,dU]) ?_)|((first|apply cG|apply cH|apply cF)<;>intro h<;>try simp only [h]))
      all_goals
       refine fD (.cons (.int .i64 q.day) (.cons (.sl true 4 (dl Cs.o q.cs)) (.cons (.int .i64 q.kept) (.cons (.int .i64 q.moved) (.cons (.sl true 1 (dl D.str q.led)) .nil))))) rfl (cQ rfl (cQ rfl ?_))
       rw [show kC [0] (oZ (oK x.o 5 7 v1 v2) (fE x.d x.p x.c)) (D.st (.cons (.int .i64 q.day) (.cons (.sl true 4 (dl Cs.o q.cs)) (.cons (.int .i64 q.kept) (.cons (.int .i64 q.moved) (.cons (.sl true 1 (dl D.str q.led)) .nil))))))=(Con.mk q x.d x.p x.c).o' from rfl]
       refine c8 (gO.refl _) ?_
       refine c8 (gO.refl _) ?_
       simp only [aB,aI,exA]
       by_cases hlong:200 < (r.length:Int)
       ·have hdl:decide (200 < (r.length:Int))=true:=decide_eq_true hlong
        rw [show aAY r=[108,111,110,103] from if_pos hlong]
        have hs1:gU [1] (Con.mk q x.d x.p x.c).o'=some (fE x.d x.p x.c):=rfl
        have hs2:fL [1] (Con.mk q x.d x.p x.c).o'=5:=rfl
        have hds:∀ a b c,kC [1] (Con.mk q x.d x.p x.c).o' (fE a b c)=(Con.mk (Con.mk q x.d x.p x.c).o a b c).o':=fun _ _ _=>rfl
        obtain ⟨nn,hap⟩:=sR x.d x.p x.c l [108,111,110,103]
        have hAp:=lT x.d x.p x.c l [108,111,110,103] h.2 hml (by rw [eD]; first|decide|omega)
        rw [hap] at hAp
        simp only [mV] at hAp
        repeat' (first|(simp only [cJ,hs1,hs2,hds,hdl,eG,jL,g8,↓kD,aWK,aWL,aWI,↓wA,↓wC,wB,cL,cK,bJ,bK,bL,reduceIte,reduceCtorEq,aA,bM,eP])|(refine cQ rfl ?_)|(refine cI hAp rfl rfl ?_)|((first|apply cG|apply cH|apply cF)<;>intro h<;>try simp only [h]))
        all_goals exact fD _ rfl (cQ rfl (cQ rfl (cQ rfl rfl)))
       ·have hdl:decide (200 < (r.length:Int))=false:=decide_eq_false hlong
        rw [show aAY r=r from if_neg hlong]
        have hs1:gU [1] (Con.mk q x.d x.p x.c).o'=some (fE x.d x.p x.c):=rfl
        have hs2:fL [1] (Con.mk q x.d x.p x.c).o'=5:=rfl
        have hds:∀ a b c,kC [1] (Con.mk q x.d x.p x.c).o' (fE a b c)=(Con.mk (Con.mk q x.d x.p x.c).o a b c).o':=fun _ _ _=>rfl
        obtain ⟨nn,hap⟩:=sR x.d x.p x.c l r
        have hAp:=lT x.d x.p x.c l r h.2 hml (by rw [eD]; first|decide|omega)
        rw [hap] at hAp
        simp only [mV] at hAp
        repeat' (first|(simp only [cJ,hs1,hs2,hds,hdl,eG,jL,g8,↓kD,aWK,aWL,aWI,↓wA,↓wC,wB,cL,cK,bJ,bK,bL,reduceIte,reduceCtorEq,aA,bM,eP])|(refine cQ rfl ?_)|(refine cI hAp rfl rfl ?_)|((first|apply cG|apply cH|apply cF)<;>intro h<;>try simp only [h]))
        all_goals exact fD _ rfl (cQ rfl (cQ rfl (cQ rfl rfl)))
theorem aIf (o:Off) (ho:o.ok0):Fn prog 52 [o.s] (fun rs=>rs=[o.s]):=by
 simpa [aWN] using fY (j9 o ho)
theorem aDO (x:Con) (h:x.ok0):Fn prog 28 [x.s] (fun rs=>rs=[x.s]):=by
 have hC:=aIf x.o h.1
 refine cW aUc [[1,0]] ?_
 dsimp only [aUc,cT,c7]
 repeat' (first|(simp only [aWx,aWy,cJ,↓wA,↓wC,wB,cL,cK,bJ,bK,bL,reduceIte,reduceCtorEq,aA,bM,eP])|((first|apply cG|apply cH|apply cF)<;>intro h<;>try simp only [h]))
 refine c8 (gI 0 rfl) ?_
 simp only [cL,cK,aWB,↓wA,↓wC,wB,cL,cK,bJ,bK,bL,reduceIte,reduceCtorEq,aA,bM,eP]
 repeat' (first|(simp only [gD,yP,pB,lB,qH,lC,eG,jL,g8,↓dF,↓kD,aWx,aWy,aWu,aWw,aWz,cJ,↓wA,↓wC,wB,cL,cK,bJ,bK,bL,reduceIte,reduceCtorEq,aA,bM,eP])|(refine cQ rfl ?_)|(refine dL ?_)|(with_reducible refine aF ?_ ?_)|(refine cI hC (by simp [dB,dI,aWv]) rfl ?_)|((first|apply cG|apply cH|apply cF)<;>intro h<;>try simp only [h]))
 all_goals rfl
theorem vG {x:Off} {K:SV->Prop}:dG 2 2 (.d (.ptr x.s)) K=K (.d (.ptr (.int .i64 x.kept))):=by simp [Off.s,dU,dG,D.pre,D.nth,D.size]
theorem u9 {x:Off} {K:SV->Prop}:dG 3 3 (.d (.ptr x.s)) K=K (.d (.ptr (.int .i64 x.moved))):=by simp [Off.s,dU,dG,D.pre,D.nth,D.size]
theorem vF {x:Off} {K:SV->Prop}:dG 4 4 (.d (.ptr x.s)) K=K (.d (.ptr (.sl false 1 (dl D.str x.led)))):=by simp [Off.s,dU,dG,D.pre,D.nth,D.size]
theorem aHG (o:Off) (l:List UInt8) (ho:dO o=true):Fn prog 57 [o.s,.str l] (fun rs=>rs=[.str (lW o l)]):=by
 have hp:=eK ho
 have hk:∀ {v:List UInt8},l=v->lW o l=lW o v:=fun e=>congrArg (lW o) e
 by_cases h6:l=uO
 ·have hI:=wI l 6 (by subst h6; rfl)
  have hD:=fR o.day (by omega) (by simp only [dX]; omega)
  rw [hk h6,aRB]
  refine cW aA7 [] ?_
  dsimp only [aA7,cT,c7]
  repeat' (first|(simp only [hI,cJ,jE,jJ,aWu,aWw,↓wA,↓wC,wB,cL,cK,bJ,bK,bL,reduceIte,reduceCtorEq,aA,bM,eP])|(refine cI (hD) rfl rfl ?_)|(refine cM (hD) rfl rfl ?_)|((first|apply cG|apply cH|apply cF)<;>intro h<;>try simp only [h]))
 by_cases h7:l=tW
 ·have hI:=wI l 7 (by subst h7; rfl)
  have hH:=aFM o ho
  have hL:=pI _ true (aDc (rW o) ho)
  rw [hk h7,aRU,show aBc (rW o) o=some _ from if_pos ho]
  refine cW aA7 [] ?_
  dsimp only [aA7,cT,c7]
  repeat' (first|(simp only [hI,cJ,aWu,aWw,↓dF,cY,↓wA,↓wC,wB,cL,cK,bJ,bK,bL,reduceIte,reduceCtorEq,aA,bM,eP])|(refine cI hH (by simp [dB,dI,aWv]) rfl ?_)|(refine cI hL (by simp [dB,dI,D.unown,dM]) rfl ?_)|((first|apply cG|apply cH|apply cF)<;>intro h<;>try simp only [h]))
  all_goals rfl
 by_cases h8:l=gK
 ·have hI:=wI l 8 (by subst h8; rfl)
  have hH:=aG6 o ho
  have hL:=pI _ true (aDc (rC o) ho)
  rw [hk h8,aDJ,show aBc (rC o) o=some _ from if_pos ho]
  refine cW aA7 [] ?_
  dsimp only [aA7,cT,c7]
  repeat' (first|(simp only [hI,cJ,aWu,aWw,↓dF,cY,↓wA,↓wC,wB,cL,cK,bJ,bK,bL,reduceIte,reduceCtorEq,aA,bM,eP])|(refine cI hH (by simp [dB,dI,aWv]) rfl ?_)|(refine cI hL (by simp [dB,dI,D.unown,dM]) rfl ?_)|((first|apply cG|apply cH|apply cF)<;>intro h<;>try simp only [h]))
  all_goals rfl
 by_cases h9:l=oG
 ·have hI:=wI l 9 (by subst h9; rfl)
  have hH:=aFZ o (fB ho)
  rw [aGy ho] at hH
  have hv:gM (yM o):=aGb
  have hD:=fR (yM o) hv.1 (lP hv)
  rw [hk h9,aL4,aGX ho]
  cases hl:eM o.led with
  | true =>
   rw [hl] at hH
   refine cW aA7 [] ?_
   dsimp only [aA7,cT,c7]
   repeat' (first|(simp only [hI,cJ,aWu,aWw,↓dF,↓wA,↓wC,wB,cL,cK,bJ,bK,bL,reduceIte,reduceCtorEq,aA,bM,eP])|(refine cI (hD) rfl rfl ?_)|(refine cM (hD) rfl rfl ?_)|(refine cI hH (by simp [dB,dI,aWv]) rfl ?_)|((first|apply cG|apply cH|apply cF)<;>intro h<;>try simp only [h]))
   all_goals rfl
  | false =>
   rw [hl] at hH
   refine cW aA7 [] ?_
   dsimp only [aA7,cT,c7]
   repeat' (first|(simp only [hI,cJ,aWu,aWw,↓dF,↓wA,↓wC,wB,cL,cK,bJ,bK,bL,reduceIte,reduceCtorEq,aA,bM,eP])|(refine cI (hD) rfl rfl ?_)|(refine cM (hD) rfl rfl ?_)|(refine cI hH (by simp [dB,dI]) rfl ?_)|((first|apply cG|apply cH|apply cF)<;>intro h<;>try simp only [h]))
   all_goals rfl
 ·have e:lW o l=qm:=by unfold lW; rw [if_neg h6,if_neg h7,if_neg h8,if_neg h9]
  have d6:decide (l=uO)=false:=decide_eq_false h6
  have d7:decide (l=tW)=false:=decide_eq_false h7
  have d8:decide (l=gK)=false:=decide_eq_false h8
  have d9:decide (l=oG)=false:=decide_eq_false h9
  rw [e]
  refine cW aA7 [] ?_
  dsimp only [aA7,cT,c7]
  repeat' (first|(simp only [d6,d7,d8,d9,cJ,aWu,aWw,↓wA,↓wC,wB,cL,cK,bJ,bK,bL,reduceIte,reduceCtorEq,aA,bM,eP])|((first|apply cG|apply cH|apply cF)<;>intro h<;>try simp only [h]))
  all_goals rfl
def mkC (x:Con) (p:Off×List UInt8):List D:=[(Con.mk p.1 x.d x.p x.c).s,.str p.2]
theorem nE (x:Con) (s:Stp) (hv:dO x.o=true):Fn prog 60 [x.s,s.d] (fun rs=>rs=mkC x (oN x.o s)):=by
 have hT:=aFy x.o s.k s.i s.a s.v (fB hv)
 have hsd:s.d=jZ s.k s.i s.a s.v:=rfl
 rw [<- hsd] at hT
 have hsn:s.d.noOwn=true:=rfl
 have hsv:s.d.isV=true:=rfl
 have hsu:s.d.unown=s.d:=rfl
 have hrs:∀ (ob:List Ob) (K:SV->Prop),eT ob (some 4) s.d K=K (.d s.d):=fun ob K=>by rw [hsd]; simp [jZ,eT,D.size,D.noOwn]
 have hf0:∀ K:SV->Prop,dG 0 0 (.d (.ptr s.d)) K=K (.d (.ptr (.int .i64 s.k))):=fun K=>by rw [hsd]; simp [jZ,dG,D.pre,D.nth]
 have hf1:∀ K:SV->Prop,dG 1 1 (.d (.ptr s.d)) K=K (.d (.ptr (.int .i64 s.i))):=fun K=>by rw [hsd]; simp [jZ,dG,D.pre,D.nth,D.size]
 have hf2:∀ K:SV->Prop,dG 2 2 (.d (.ptr s.d)) K=K (.d (.ptr (.int .i64 s.a))):=fun K=>by rw [hsd]; simp [jZ,dG,D.pre,D.nth,D.size]
 have hf3:∀ K:SV->Prop,dG 3 3 (.d (.ptr s.d)) K=K (.d (.ptr (.int .i64 s.v))):=fun K=>by rw [hsd]; simp [jZ,dG,D.pre,D.nth,D.size]
 unfold oN
 cases hq:gY x.o s.k s.i s.a s.v with
 | none =>
  have e1:uW x.o s.k s.i s.a s.v=aDr:=by unfold uW; rw [hq]; rfl
  have e2:uV x.o s.k s.i s.a s.v=false:=by unfold uV; rw [hq]; rfl
  rw [e1,e2] at hT
  refine cW aPa [[1,0]] ?_
  dsimp only [aPa,cT,c7]
  repeat' (first|(simp only [aWx,aWy,cJ,hsn,hsv,↓wA,↓wC,wB,cL,cK,bJ,bK,bL,reduceIte,reduceCtorEq,aA,bM,eP])|((first|apply cG|apply cH|apply cF)<;>intro h<;>try simp only [h]))
  refine c8 ((gI 0 rfl).trans (gI 1 rfl)) ?_
  simp only [cL,cK,aWB,hsu,↓wA,↓wC,wB,cL,cK,bJ,bK,bL,reduceIte,reduceCtorEq,aA,bM,eP]
  repeat' (first|(simp only [gD,yP,qK,vG,u9,vF,hf0,hf1,hf2,hf3,aWx,aWy,aWA,aWu,aWw,aWz,cR,cO,↓eA,↓dF,cJ,hrs,↓wA,↓wC,wB,cL,cK,bJ,bK,bL,reduceIte,reduceCtorEq,aA,bM,eP])|(refine cQ rfl ?_)|(refine cI hT (by simp [dB,dI,aWv,hsu]) rfl ?_)|((first|apply cG|apply cH|apply cF)<;>intro h<;>try simp only [h]))
  all_goals exact fD _ rfl rfl
 | some q =>
  have hqo:=x7 hq
  have e1:uW x.o s.k s.i s.a s.v=q:=by unfold uW; rw [hq]; rfl
  have e2:uV x.o s.k s.i s.a s.v=true:=by unfold uV; rw [hq]; rfl
  rw [e1,e2] at hT
  have hds:kC [0] x.s q.s=(Con.mk q x.d x.p x.c).s:=rfl
  refine cW aPa [[1,1,1,1,1,0,0],[1,1,1,0],[1,0]] ?_
  dsimp only [aPa,cT,c7]
  repeat' (first|(simp only [aWx,aWy,cJ,hsn,hsv,↓wA,↓wC,wB,cL,cK,bJ,bK,bL,reduceIte,reduceCtorEq,aA,bM,eP])|((first|apply cG|apply cH|apply cF)<;>intro h<;>try simp only [h]))
  refine c8 ((gI 0 rfl).trans (gI 1 rfl)) ?_
  simp only [cL,cK,aWB,hsu,↓wA,↓wC,wB,cL,cK,bJ,bK,bL,reduceIte,reduceCtorEq,aA,bM,eP]
  repeat' (first|(simp only [gD,yP,qK,vG,u9,vF,hf0,hf1,hf2,hf3,aWx,aWy,aWA,aWu,aWw,aWz,cR,cO,↓eA,↓dF,cJ,hrs,↓wA,↓wC,wB,cL,cK,bJ,bK,bL,reduceIte,reduceCtorEq,aA,bM,eP])|(refine cQ rfl ?_)|(refine cI hT (by simp [dB,dI,aWv,hsu]) rfl ?_)|((first|apply cG|apply cH|apply cF)<;>intro h<;>try simp only [h]))
  refine c8 (gI 3 rfl) ?_
  simp only [cL,cK,aWv,↓wA,↓wC,wB,cL,cK,bJ,bK,bL,reduceIte,reduceCtorEq,aA,bM,eP]
  repeat' (first|(simp only [hds,pB,gD,yP,qK,vG,u9,vF,hf0,hf1,hf2,hf3,aWx,aWy,aWA,aWu,aWw,aWz,cR,cO,↓eA,↓dF,cJ,hrs,↓wA,↓wC,wB,cL,cK,bJ,bK,bL,reduceIte,reduceCtorEq,aA,bM,eP])|(refine cQ rfl ?_)|(refine cI hT (by simp [dB,dI,aWv,hsu]) rfl ?_)|((first|apply cG|apply cH|apply cF)<;>intro h<;>try simp only [h]))
  refine fD _ rfl (cQ rfl ?_)
  refine c8 (gI 4 rfl) ?_
  simp only [cL,cK,aWB,↓wA,↓wC,wB,cL,cK,bJ,bK,bL,reduceIte,reduceCtorEq,aA,bM,eP]
  by_cases k1:s.k=1
  ·have d1:decide (s.k=1)=true:=decide_eq_true k1
   have hp:=eK hqo
   have hD:=fR q.day (by omega) (by simp only [dX]; omega)
   rw [if_pos k1]
   repeat' (first|(simp only [d1,qK,vG,u9,vF,hf0,hf1,hf2,hf3,gD,aWx,aWy,aWA,aWu,aWw,aWz,cR,cY,cO,↓eA,↓dF,cJ,↓wA,↓wC,wB,cL,cK,bJ,bK,bL,reduceIte,reduceCtorEq,aA,bM,eP])|(refine cQ rfl ?_)|(refine dL ?_)|(with_reducible refine aF ?_ ?_)|(refine cI (hD) rfl rfl ?_)|(refine cM (hD) rfl rfl ?_)|((first|apply cG|apply cH|apply cF)<;>intro h<;>try simp only [h]))
   all_goals exact fD _ rfl rfl
  have d1:decide (s.k=1)=false:=decide_eq_false k1
  rw [if_neg k1]
  by_cases k4:s.k=4
  ·have d4:decide (s.k=4)=true:=decide_eq_true k4
   have hH:=yS x.o s.v hv
   have hL:=pI _ (dC s.v 1 9) (aBh s.v hv)
   rw [if_pos k4,aBd s.v hv]
   repeat' (first|(simp only [d1,d4,qK,hf0,aWy,aWA,↓eA,cJ,↓wA,↓wC,wB,bJ,bK,reduceIte,eP])|(refine cQ rfl ?_)|(refine dL ?_)|(with_reducible refine aF ?_ ?_)|(refine cI hH (by simp [dB,dI,aWv]) rfl ?_)|(refine cI hL (by simp [dB,dI,D.unown,dM]) rfl ?_)|((first|apply cG|apply cH|apply cF)<;>intro h<;>try simp only [h]))
   all_goals (refine fD _ rfl ?_; cases dC s.v 1 9<;>rfl)
  have d4:decide (s.k=4)=false:=decide_eq_false k4
  rw [if_neg k4]
  by_cases k6:s.k=6
  ·have d6:decide (s.k=6)=true:=decide_eq_true k6
   have hL:=pI _ true (aNL hqo)
   rw [if_pos k6]
   repeat' (first|(simp only [d1,d4,d6,qK,vG,u9,vF,hf0,hf1,hf2,hf3,gD,aWx,aWy,aWA,aWu,aWw,aWz,cR,cY,cO,↓eA,↓dF,cJ,↓wA,↓wC,wB,cL,cK,bJ,bK,bL,reduceIte,reduceCtorEq,aA,bM,eP])|(refine cQ rfl ?_)|(refine dL ?_)|(with_reducible refine aF ?_ ?_)|(refine cI hL rfl rfl ?_)|((first|apply cG|apply cH|apply cF)<;>intro h<;>try simp only [h]))
   all_goals exact fD _ rfl rfl
  have d6:decide (s.k=6)=false:=decide_eq_false k6
  rw [if_neg k6]
  have hC:=aC9 q s.i (fB hqo)
  repeat' (first|(simp only [d1,d4,d6,vG,u9,vF,hf0,aWy,aWA,cR,cO,↓eA,cJ,↓wA,↓wC,wB,bJ,bK,reduceIte,eP])|(refine cQ rfl ?_)|(refine dL ?_)|(with_reducible refine aF ?_ ?_)|(refine cI hC (by simp [dB,dI,aWv]) rfl ?_)|((first|apply cG|apply cH|apply cF)<;>intro h<;>try simp only [h]))
  all_goals exact fD _ rfl rfl
theorem aKN (x:Con) (w:List UInt8) (n:Int) (hv:dO x.o=true):Fn prog 58 [x.s,.str w,.int .i64 n] (fun rs=>rs=mkC x (pY x.o w n)):=by
 by_cases h0:w=nB
 ·have hI:=wI w 0 (by subst h0; rfl)
  have hM:=nE x ⟨1,0,0,n⟩ hv
  rw [show Stp.d ⟨1,0,0,n⟩=jZ 1 0 0 n from rfl] at hM
  simp only [mkC,jZ] at hM
  rw [(congrArg (pY x.o · n) h0).trans (aSt x.o n)]
  refine cW aA4 [] ?_
  dsimp only [aA4,cT,c7]
  repeat' (first|(simp only [gD,hI,aWx,aWy,aWA,aWu,aWw,aWz,cY,↓eA,↓dF,cJ,↓wA,↓wC,wB,cL,cK,bJ,bK,bL,reduceIte,reduceCtorEq,aA,bM,eP])|(refine cQ rfl ?_)|(refine dL ?_)|(with_reducible refine aF ?_ ?_)|(refine cI hM (by simp [dB,dI,aWB]) rfl ?_)|((first|apply cG|apply cH|apply cF)<;>intro h<;>try simp only [h]))
  all_goals exact fD _ rfl rfl
 by_cases h3:w=gF
 ·have hI:=wI w 3 (by subst h3; rfl)
  have hM:=nE x ⟨4,0,0,n⟩ hv
  rw [show Stp.d ⟨4,0,0,n⟩=jZ 4 0 0 n from rfl] at hM
  simp only [mkC,jZ] at hM
  rw [(congrArg (pY x.o · n) h3).trans (aKD x.o n)]
  refine cW aA4 [] ?_
  dsimp only [aA4,cT,c7]
  repeat' (first|(simp only [gD,hI,aWx,aWy,aWA,aWu,aWw,aWz,cY,↓eA,↓dF,cJ,↓wA,↓wC,wB,cL,cK,bJ,bK,bL,reduceIte,reduceCtorEq,aA,bM,eP])|(refine cQ rfl ?_)|(refine dL ?_)|(with_reducible refine aF ?_ ?_)|(refine cI hM (by simp [dB,dI,aWB]) rfl ?_)|((first|apply cG|apply cH|apply cF)<;>intro h<;>try simp only [h]))
  all_goals exact fD _ rfl rfl
 by_cases h5:w=tP
 ·have hI:=wI w 5 (by subst h5; rfl)
  have hM:=nE x ⟨6,n,0,0⟩ hv
  rw [show Stp.d ⟨6,n,0,0⟩=jZ 6 n 0 0 from rfl] at hM
  simp only [mkC,jZ] at hM
  rw [(congrArg (pY x.o · n) h5).trans (aT6 x.o n)]
  refine cW aA4 [] ?_
  dsimp only [aA4,cT,c7]
  repeat' (first|(simp only [gD,hI,aWx,aWy,aWA,aWu,aWw,aWz,cY,↓eA,↓dF,cJ,↓wA,↓wC,wB,cL,cK,bJ,bK,bL,reduceIte,reduceCtorEq,aA,bM,eP])|(refine cQ rfl ?_)|(refine dL ?_)|(with_reducible refine aF ?_ ?_)|(refine cI hM (by simp [dB,dI,aWB]) rfl ?_)|((first|apply cG|apply cH|apply cF)<;>intro h<;>try simp only [h]))
  all_goals exact fD _ rfl rfl
 by_cases lA:w=nY
 ·have hI:=wI w 10 (by subst lA; rfl)
  have hH:=yS x.o n hv
  have hL:=pI _ (dC n 1 9) (aBh n hv)
  rw [(congrArg (pY x.o · n) lA).trans (aNp x.o n),aBd n hv]
  refine cW aA4 [[1,0,0]] ?_
  dsimp only [aA4,cT,c7]
  repeat' (first|(simp only [aWx,aWy,cJ,↓wA,↓wC,wB,cL,cK,bJ,bK,bL,reduceIte,reduceCtorEq,aA,bM,eP])|((first|apply cG|apply cH|apply cF)<;>intro h<;>try simp only [h]))
  refine c8 (gI 0 rfl) ?_
  simp only [cL,cK,aWB,↓wA,↓wC,wB,cL,cK,bJ,bK,bL,reduceIte,reduceCtorEq,aA,bM,eP]
  repeat' (first|(simp only [gD,hI,aWx,aWy,aWA,aWu,aWw,aWz,cY,↓eA,↓dF,cJ,↓wA,↓wC,wB,cL,cK,bJ,bK,bL,reduceIte,reduceCtorEq,aA,bM,eP])|(refine cQ rfl ?_)|(refine dL ?_)|(with_reducible refine aF ?_ ?_)|(refine cI hH (by simp [dB,dI,aWv]) rfl ?_)|(refine cI hL (by simp [dB,dI,D.unown,dM]) rfl ?_)|((first|apply cG|apply cH|apply cF)<;>intro h<;>try simp only [h]))
  all_goals (refine fD _ rfl ?_; cases dC n 1 9<;>rfl)
 by_cases h11:w=oO
 ·have hI:=wI w 11 (by subst h11; rfl)
  have hC:=aC9 x.o n (fB hv)
  rw [(congrArg (pY x.o · n) h11).trans (aND x.o n)]
  refine cW aA4 [[1,0,0]] ?_
  dsimp only [aA4,cT,c7]
  repeat' (first|(simp only [aWx,aWy,cJ,↓wA,↓wC,wB,cL,cK,bJ,bK,bL,reduceIte,reduceCtorEq,aA,bM,eP])|((first|apply cG|apply cH|apply cF)<;>intro h<;>try simp only [h]))
  refine c8 (gI 0 rfl) ?_
  simp only [cL,cK,aWB,↓wA,↓wC,wB,cL,cK,bJ,bK,bL,reduceIte,reduceCtorEq,aA,bM,eP]
  repeat' (first|(simp only [gD,hI,aWx,aWy,aWA,aWu,aWw,aWz,cY,↓eA,↓dF,cJ,↓wA,↓wC,wB,cL,cK,bJ,bK,bL,reduceIte,reduceCtorEq,aA,bM,eP])|(refine cQ rfl ?_)|(refine dL ?_)|(with_reducible refine aF ?_ ?_)|(refine cI hC (by simp [dB,dI,aWv]) rfl ?_)|((first|apply cG|apply cH|apply cF)<;>intro h<;>try simp only [h]))
  all_goals exact fD _ rfl rfl
 ·have e:pY x.o w n=(x.o,qm):=by unfold pY; rw [if_neg h0,if_neg h3,if_neg h5,if_neg lA,if_neg h11]
  have hI:decide (w=nB)=false/\decide (w=gF)=false/\decide (w=tP)=false/\decide (w=nY)=false/\decide (w=oO)=false:=⟨decide_eq_false h0,decide_eq_false h3,decide_eq_false h5,decide_eq_false lA,decide_eq_false h11⟩
  rw [e]
  refine cW aA4 [] ?_
  dsimp only [aA4,cT,c7]
  repeat' (first|(simp only [gD,hI,aWx,aWy,aWA,aWu,aWw,aWz,cY,↓eA,↓dF,cJ,↓wA,↓wC,wB,cL,cK,bJ,bK,bL,reduceIte,reduceCtorEq,aA,bM,eP])|(refine cQ rfl ?_)|(refine dL ?_)|(with_reducible refine aF ?_ ?_)|((first|apply cG|apply cH|apply cF)<;>intro h<;>try simp only [h]))
  all_goals exact fD _ rfl rfl
theorem aKh (x:Con) (w:List UInt8) (n v:Int) (hv:dO x.o=true):Fn prog 59 [x.s,.str w,.int .i64 n,.int .i64 v] (fun rs=>rs=mkC x (rH x.o w n v)):=by
 by_cases h2:w=nX
 ·have hI:=wI w 2 (by subst h2; rfl)
  have hM:=nE x ⟨3,n,0,v⟩ hv
  rw [show Stp.d ⟨3,n,0,v⟩=jZ 3 n 0 v from rfl] at hM
  simp only [mkC,jZ] at hM
  rw [(congrArg (rH x.o · n v) h2).trans (aTm x.o n v)]
  refine cW aLg [] ?_
  dsimp only [aLg,cT,c7]
  repeat' (first|(simp only [gD,hI,aWx,aWy,aWA,aWu,aWw,aWz,cY,↓eA,↓dF,cJ,↓wA,↓wC,wB,cL,cK,bJ,bK,bL,reduceIte,reduceCtorEq,aA,bM,eP])|(refine cQ rfl ?_)|(refine dL ?_)|(with_reducible refine aF ?_ ?_)|(refine cI hM (by simp [dB,dI,aWB]) rfl ?_)|((first|apply cG|apply cH|apply cF)<;>intro h<;>try simp only [h]))
  all_goals exact fD _ rfl rfl
 by_cases h4:w=kQ
 ·have hI:=wI w 4 (by subst h4; rfl)
  have hM:=nE x ⟨5,n,0,v⟩ hv
  rw [show Stp.d ⟨5,n,0,v⟩=jZ 5 n 0 v from rfl] at hM
  simp only [mkC,jZ] at hM
  rw [(congrArg (rH x.o · n v) h4).trans (aQt x.o n v)]
  refine cW aLg [] ?_
  dsimp only [aLg,cT,c7]
  repeat' (first|(simp only [gD,hI,aWx,aWy,aWA,aWu,aWw,aWz,cY,↓eA,↓dF,cJ,↓wA,↓wC,wB,cL,cK,bJ,bK,bL,reduceIte,reduceCtorEq,aA,bM,eP])|(refine cQ rfl ?_)|(refine dL ?_)|(with_reducible refine aF ?_ ?_)|(refine cI hM (by simp [dB,dI,aWB]) rfl ?_)|((first|apply cG|apply cH|apply cF)<;>intro h<;>try simp only [h]))
  all_goals exact fD _ rfl rfl
 ·have e:rH x.o w n v=(x.o,qm):=by unfold rH; rw [if_neg h2,if_neg h4]
  have hI:decide (w=nX)=false/\decide (w=kQ)=false:=⟨decide_eq_false h2,decide_eq_false h4⟩
  rw [e]
  refine cW aLg [] ?_
  dsimp only [aLg,cT,c7]
  repeat' (first|(simp only [gD,hI,aWx,aWy,aWA,aWu,aWw,aWz,cY,↓eA,↓dF,cJ,↓wA,↓wC,wB,cL,cK,bJ,bK,bL,reduceIte,reduceCtorEq,aA,bM,eP])|(refine cQ rfl ?_)|(refine dL ?_)|(with_reducible refine aF ?_ ?_)|((first|apply cG|apply cH|apply cF)<;>intro h<;>try simp only [h]))
  all_goals exact fD _ rfl rfl
theorem aKK (x:Con) (l w:List UInt8) (ws:List (List UInt8)) (hv:dO x.o=true) (hl:l.length<=1000) (hp:parts 32 l=w :: ws):Fn prog 31 [x.s,.str l] (fun rs=>rs=mkC x (oQ x.o w ws)):=by
 have hS:=pW l 32 (by omega)
 rw [hp] at hS
 have hS:Fn prog 44 [.str l,.int .u8 32] (fun rs=>rs=[.sl true 1 (dl D.str (w :: ws))]):=hS
 have hws:∀ s∈w :: ws,s.length<=1000:=fun s hs=>by
  rw [<- hp] at hs
  have:=yX 32 l s hs
  omega
 have hwl:ws.length<=1000:=by
  have h1:=aEa 32 l
  rw [hp,aC] at h1
  omega
 have hw0:(w :: ws)[0]?=some w:=rfl
 refine cW aTR [[1,1,1,1,0,0],[1,1,1,0,0]] ?_
 dsimp only [aTR,cT,c7]
 repeat' (first|(simp only [aWx,aWy,cJ,aJ7,↓wA,↓wC,wB,cL,cK,bJ,bK,bL,reduceIte,reduceCtorEq,aA,bM,eP])|(refine cQ rfl ?_)|(refine cI hS rfl rfl ?_)|((first|apply cG|apply cH|apply cF)<;>intro h<;>try simp only [h]))
 refine c8 (s':=⟨[(1,.d (.str l)),(2,.d (.ptr x.s)),(4,.ptr 1 0 []),(6,.d (.sl false 1 (dl D.str (w :: ws)))),(7,.own 3)],[.dead,.box aPC,.dead,.val (.sl true 1 (dl iD []))]⟩) ((aCE 0 rfl (aWB x)).trans ((aIL 2 rfl).trans (cU _ rfl ⟨⟨rfl,rfl⟩,⟨rfl,rfl⟩,⟨rfl,rfl⟩,⟨by simp only [wV,tT,D.unown,vN,↓wA,↓wC,wB,cL,cK,bJ,bK,bL,reduceIte,reduceCtorEq,aA,bM,eP],rfl⟩,⟨rfl,rfl⟩,trivial⟩))) ?_
 repeat' (first|(simp only [cJ,↓wA,↓wC,wB,cL,cK,bJ,bK,bL,reduceIte,reduceCtorEq,aA,bM,eP])|((first|apply cG|apply cH|apply cF)<;>intro h<;>try simp only [h]))
 refine dZ (fun j:Nat=>⟨[(1,.d (.str l)),(2,.d (.ptr x.s)),(4,.ptr 1 0 []),(6,.d (.sl false 1 (dl D.str (w :: ws)))),(7,.own 3),(8,.d (.int .i64 ((j:Int) + 1)))],[.dead,.box aPC,.dead,.val (.sl true 1 (dl iD (qQ ws j)))]⟩) (fun j=>j<=ws.length/\o7 (ws.take j)=some (qQ ws j)) (fun j=>ws.length - j) 0 (cU _ rfl ⟨⟨rfl,rfl⟩,⟨rfl,rfl⟩,⟨rfl,rfl⟩,⟨rfl,rfl⟩,⟨rfl,rfl⟩,⟨rfl,rfl⟩,trivial⟩) ⟨Nat.zero_le _,rfl⟩ ?_
 rintro j ⟨hj,hin⟩
 by_cases hlt:j < ws.length
 ·have hd:decide ((j:Int) + 1 < ((ws.length + 1:Nat):Int))=true:=decide_eq_true (by omega)
  obtain ⟨s,hr⟩:=dP hlt
  have hr':(w :: ws)[j + 1]?=some s:=hr
  have hjn:((j:Int) + 1).toNat=j + 1:=by omega
  have hP:=aA2 s (by have:=hws s (aP _ (aH hr)); omega)
  have hlen:=tX hin
  rw [aM,aZ (by omega)] at hlen
  unfold rdR at hP
  cases hn:kK s with
  | none =>
   rw [hn] at hP
   have hg:oQ x.o w ws=(x.o,qm):=by unfold oQ; rw [aAd hn ws (aH hr)]
   rw [hg]
   repeat' (first|(simp only [hd,hr',hjn,aB,cJ,cO,c6,aC,aWx,aWy,aWA,↓eA,↓wA,↓wC,wB,cL,cK,bJ,bK,bL,reduceIte,reduceCtorEq,aA,bM,eP])|(refine cI (hP) rfl rfl ?_)|(refine cM (hP) rfl rfl ?_)|(with_reducible refine cQ ?_ ?_; focus omega)|(refine cQ rfl ?_)|((first|apply cG|apply cH|apply cF)<;>intro h<;>try simp only [h]))
   all_goals exact fD _ rfl rfl
  | some n =>
   rw [hn] at hP
   have hu:o7 (ws.take (j + 1))=some (qQ ws j ++ [n]):=by rw [e7 hr,zX,hin,hn]; rfl
   have hu2:qQ ws (j + 1)=qQ ws j ++ [n]:=by unfold qQ at hu ⊢; rw [hu]; rfl
   repeat' (first|(simp only [hd,hr',hjn,aB,cJ,cO,c6,aC,↓wA,↓wC,wB,cL,cK,bJ,bK,bL,reduceIte,reduceCtorEq,aA,bM,eP])|(refine cI (hP) rfl rfl ?_)|(refine cM (hP) rfl rfl ?_)|(refine cQ (fun e=>by cases e) ?_)|(with_reducible refine cQ ?_ ?_; focus omega)|(with_reducible refine cP ?_ ?_; focus (simp only [dX]; omega))|((first|apply cG|apply cH|apply cF)<;>intro h<;>try simp only [h]))
   refine ⟨j + 1,?_,⟨by omega,by rw [hu2]; exact hu⟩,by omega⟩
   rw [hu2,<-iJ (f:=iD)]
   exact (cU _ rfl ⟨⟨rfl,rfl⟩,⟨rfl,rfl⟩,⟨rfl,rfl⟩,⟨rfl,rfl⟩,⟨rfl,rfl⟩,⟨rfl,rfl⟩,trivial⟩)
 ·have hd:decide ((j:Int) + 1 < ((ws.length + 1:Nat):Int))=false:=decide_eq_false (by omega)
  have hjl:j=ws.length:=by omega
  subst hjl
  rw [bE] at hin
  have hbd:=aEQ hin
  have hlen:=tX hin
  generalize qQ ws ws.length=n at hin hbd hlen
  repeat' (first|(simp only [hd,cJ,cO,aC,↓wA,↓wC,wB,cL,cK,bJ,bK,bL,reduceIte,reduceCtorEq,aA,bM,eP])|((first|apply cG|apply cH|apply cF)<;>intro h<;>try simp only [h]))
  refine c8 (s':=⟨[(1,.d (.str l)),(2,.d (.ptr x.s)),(4,.ptr 1 0 []),(6,.d (.sl false 1 (dl D.str (w :: ws)))),(7,.d (.sl false 1 (dl iD n)))],[.dead,.box aPC,.dead,.dead]⟩) ((aIL 3 rfl).trans (cU _ rfl ⟨⟨rfl,rfl⟩,⟨rfl,rfl⟩,⟨rfl,rfl⟩,⟨rfl,rfl⟩,⟨by simp only [wV,tT,D.unown,dM,↓wA,↓wC,wB,cL,cK,bJ,bK,bL,reduceIte,reduceCtorEq,aA,bM,eP],rfl⟩,trivial⟩)) ?_
  have hcase:n=[]\/(∃ a,n=[a])\/(∃ a b,n=[a,b])\/(∃ a b c,n=[a,b,c])\/4<=n.length:=by
   match n with
   | []=>exact .inl rfl
   | [a]=>exact .inr (.inl ⟨a,rfl⟩)
   | [a,b]=>exact .inr (.inr (.inl ⟨a,b,rfl⟩))
   | [a,b,c]=>exact .inr (.inr (.inr (.inl ⟨a,b,c,rfl⟩)))
   | a :: b :: c :: d :: r=>exact .inr (.inr (.inr (.inr (by simp))))
  rcases hcase with hk|⟨a,hk⟩|⟨a,b,hk⟩|⟨a,b,c,hk⟩|hk
  ·have e:ws=[]:=aX.1 (by rw [<- hlen,hk]; rfl)
   have ew:w=l:=aKz (by rw [hp,e])
   have hM:=aHG x.o l hv
   have hg:oQ x.o w ws=(x.o,lW x.o l):=by unfold oQ; rw [hin,hk,ew]
   have hI:decide ((n.length:Int)=0)=true:=by rw [hk]; rfl
   rw [hg]
   repeat' (first|(simp only [cJ,gD,aWx,aWy,aWA,aWu,aWw,aWz,cY,cO,c6,aG,aE,aB,e9,iD,hw0,hI,↓eA,↓dF,↓wA,↓wC,wB,cL,cK,bJ,bK,bL,reduceIte,reduceCtorEq,aA,bM,eP])|(with_reducible refine cQ ?_ ?_; focus omega)|(refine cQ rfl ?_)|(refine dL ?_)|(with_reducible refine aF ?_ ?_)|(refine cI hM (by simp [dB,dI,aWv]) rfl ?_)|((first|apply cG|apply cH|apply cF)<;>intro h<;>try simp only [h]))
   all_goals exact fD _ rfl rfl
  ·have hM:=aKN x w a hv
   simp only [mkC] at hM
   have hg:oQ x.o w ws=pY x.o w a:=by unfold oQ; rw [hin,hk]
   have hI:decide ((n.length:Int)=0)=false/\decide ((n.length:Int)=1)=true/\n[0]?=some a:=by rw [hk]; exact ⟨rfl,rfl,rfl⟩
   have hlN:n.length=1:=by rw [hk]; rfl
   rw [hg]
   repeat' (first|(simp only [cJ,gD,aWx,aWy,aWA,aWu,aWw,aWz,cY,cO,c6,aG,aE,aB,e9,iD,hw0,hI,↓eA,↓dF,↓wA,↓wC,wB,cL,cK,bJ,bK,bL,reduceIte,reduceCtorEq,aA,bM,eP])|(with_reducible refine cQ ?_ ?_; focus omega)|(refine cQ rfl ?_)|(refine dL ?_)|(with_reducible refine aF ?_ ?_)|(refine cI hM (by simp [dB,dI,aWB]) rfl ?_)|((first|apply cG|apply cH|apply cF)<;>intro h<;>try simp only [h]))
   all_goals exact fD _ rfl rfl
  ·have hM:=aKh x w a b hv
   simp only [mkC] at hM
   have hg:oQ x.o w ws=rH x.o w a b:=by unfold oQ; rw [hin,hk]
   have hI:decide ((n.length:Int)=0)=false/\decide ((n.length:Int)=1)=false/\decide ((n.length:Int)=2)=true/\n[0]?=some a/\n[1]?=some b:=by rw [hk]; exact ⟨rfl,rfl,rfl,rfl,rfl⟩
   have hlN:n.length=2:=by rw [hk]; rfl
   rw [hg]
   repeat' (first|(simp only [cJ,gD,aWx,aWy,aWA,aWu,aWw,aWz,cY,cO,c6,aG,aE,aB,e9,iD,hw0,hI,↓eA,↓dF,↓wA,↓wC,wB,cL,cK,bJ,bK,bL,reduceIte,reduceCtorEq,aA,bM,eP])|(with_reducible refine cQ ?_ ?_; focus omega)|(refine cQ rfl ?_)|(refine dL ?_)|(with_reducible refine aF ?_ ?_)|(refine cI hM (by simp [dB,dI,aWB]) rfl ?_)|((first|apply cG|apply cH|apply cF)<;>intro h<;>try simp only [h]))
   all_goals exact fD _ rfl rfl
  ·have hM:=nE x ⟨2,a,b,c⟩ hv
   rw [show Stp.d ⟨2,a,b,c⟩=jZ 2 a b c from rfl] at hM
   simp only [mkC,jZ] at hM
   have hlN:n.length=3:=by rw [hk]; rfl
   by_cases hw:w=kG
   ·have hg:oQ x.o w ws=oN x.o ⟨2,a,b,c⟩:=by unfold oQ; rw [hin,hk]; exact if_pos hw
    have hI:decide ((n.length:Int)=0)=false/\decide ((n.length:Int)=1)=false/\decide ((n.length:Int)=2)=false/\decide ((n.length:Int)=3)=true/\n[0]?=some a/\n[1]?=some b/\n[2]?=some c/\decide (w=kG)=true:=by rw [hk]; exact ⟨rfl,rfl,rfl,rfl,rfl,rfl,rfl,decide_eq_true hw⟩
    rw [hg]
    repeat' (first|(simp only [cJ,gD,aWx,aWy,aWA,aWu,aWw,aWz,cY,cO,c6,aG,aE,aB,e9,iD,hw0,hI,↓eA,↓dF,↓wA,↓wC,wB,cL,cK,bJ,bK,bL,reduceIte,reduceCtorEq,aA,bM,eP])|(with_reducible refine cQ ?_ ?_; focus omega)|(refine cQ rfl ?_)|(refine dL ?_)|(with_reducible refine aF ?_ ?_)|(refine cI hM (by simp [dB,dI,aWB]) rfl ?_)|((first|apply cG|apply cH|apply cF)<;>intro h<;>try simp only [h]))
    all_goals exact fD _ rfl rfl
   ·have hg:oQ x.o w ws=(x.o,qm):=by unfold oQ; rw [hin,hk]; exact if_neg hw
    have hI:decide ((n.length:Int)=0)=false/\decide ((n.length:Int)=1)=false/\decide ((n.length:Int)=2)=false/\decide ((n.length:Int)=3)=true/\decide (w=kG)=false:=by rw [hk]; exact ⟨rfl,rfl,rfl,rfl,decide_eq_false hw⟩
    rw [hg]
    repeat' (first|(simp only [cJ,gD,aWx,aWy,aWA,aWu,aWw,aWz,cY,cO,c6,aG,aE,aB,e9,iD,hw0,hI,↓eA,↓dF,↓wA,↓wC,wB,cL,cK,bJ,bK,bL,reduceIte,reduceCtorEq,aA,bM,eP])|(with_reducible refine cQ ?_ ?_; focus omega)|(refine cQ rfl ?_)|(refine dL ?_)|(with_reducible refine aF ?_ ?_)|((first|apply cG|apply cH|apply cF)<;>intro h<;>try simp only [h]))
    all_goals exact fD _ rfl rfl
  ·have hI:decide ((n.length:Int)=0)=false/\decide ((n.length:Int)=1)=false/\decide ((n.length:Int)=2)=false/\decide ((n.length:Int)=3)=false:=⟨decide_eq_false (by omega),decide_eq_false (by omega),decide_eq_false (by omega),decide_eq_false (by omega)⟩
   have hg:oQ x.o w ws=(x.o,qm):=by
    unfold oQ; rw [hin]
    match n,hk with
    | a :: b :: c :: d :: r,_=>rfl
   rw [hg]
   repeat' (first|(simp only [cJ,gD,aWx,aWy,aWA,aWu,aWw,aWz,cY,cO,c6,aG,aE,aB,e9,iD,hw0,hI,↓eA,↓dF,↓wA,↓wC,wB,cL,cK,bJ,bK,bL,reduceIte,reduceCtorEq,aA,bM,eP])|(with_reducible refine cQ ?_ ?_; focus omega)|(refine cQ rfl ?_)|(refine dL ?_)|(with_reducible refine aF ?_ ?_)|((first|apply cG|apply cH|apply cF)<;>intro h<;>try simp only [h]))
   all_goals exact fD _ rfl rfl
theorem aMA {o q:Off} {r w:List UInt8} {ws:List (List UInt8)} (ho:dO o=true) (h:aA8 o w ws=some (q,r)):dO q=true:=by
 unfold aA8 at h
 split at h
 ·cases h
 ·split at h
  ·split at h
   ·split at h
    ·rename_i hq
     obtain ⟨_,_,h⟩:=a7.1 h
     injection h with h _
     subst h
     exact x7 hq
    ·cases h
   ·obtain ⟨_,_,h⟩:=a7.1 h
    injection h with h _
    subst h
    exact ho
  ·cases h
theorem aSX {o:Off} {w:List UInt8} {ws:List (List UInt8)} (ho:dO o=true):dO (oQ o w ws).1=true:=by
 rw [aI7 o w ws ho]
 cases h:aA8 o w ws with
 | none=>exact ho
 | some y=>exact aMA ho h
theorem aOi (x:Con) (l w:List UInt8) (ws:List (List UInt8)) (ho:dO x.o=true):exA x l (aA8 x.o w ws)=(⟨(oQ x.o w ws).1,(aCv x.d x.p x.c l (aAY (oQ x.o w ws).2)).1,(aCv x.d x.p x.c l (aAY (oQ x.o w ws).2)).2.1,(aCv x.d x.p x.c l (aAY (oQ x.o w ws).2)).2.2⟩,aAY (oQ x.o w ws).2):=by
 rw [aI7 x.o w ws ho]
 unfold exA
 cases aA8 x.o w ws<;>rfl
theorem aAK (x:Con) (l:List UInt8) (h:x.ok0) (hl:l.length<=1048576):Fn prog 11 [x.s,.str l] (fun rs=>rs=[(exC x l).1.s,.str (exC x l).2]):=by
 have hV:=aCa x h
 have hO:=aDO x h
 have hml:l.length<=maxLen:=by rw [eD]; omega
 have hR:=xM l [] hml (by rw [eD]; decide)
 simp only [mV] at hR
 cases hv:nZ x with
 | false =>
  rw [hv] at hV
  rw [aMG hv]
  refine cW aDx [] ?_
  dsimp only [aDx,cT,c7]
  repeat' (first|(simp only [pT,qA,lB,lC,aWx,aWy,aWA,↓eA,eG,jL,g8,↓kD,cJ,↓wA,↓wC,wB,cL,cK,bJ,bK,bL,reduceIte,reduceCtorEq,aA,bM,eP])|(refine cQ rfl ?_)|(refine cI hV rfl rfl ?_)|(refine cI hO rfl rfl ?_)|((first|apply cG|apply cH|apply cF)<;>intro h<;>try simp only [h]))
  all_goals exact fD _ rfl rfl
 | true =>
  rw [hv] at hV
  cases hr:gG l [] with
  | false =>
   rw [hr] at hR
   rw [aJp hv hr]
   refine cW aDx [] ?_
   dsimp only [aDx,cT,c7]
   repeat' (first|(simp only [pT,qA,lB,lC,aWx,aWy,aWA,↓eA,eG,jL,g8,↓kD,cJ,↓wA,↓wC,wB,cL,cK,bJ,bK,bL,reduceIte,reduceCtorEq,aA,bM,eP])|(refine cQ rfl ?_)|(refine cI hV rfl rfl ?_)|(refine cI hO rfl rfl ?_)|(refine cI hR rfl rfl ?_)|((first|apply cG|apply cH|apply cF)<;>intro h<;>try simp only [h]))
   all_goals exact fD _ rfl rfl
  | true =>
   rw [hr] at hR
   by_cases hc:x.c=60
   ·have hd:decide (x.c=60)=true:=decide_eq_true hc
    rw [aGH hv hr hc]
    refine cW aDx [] ?_
    dsimp only [aDx,cT,c7]
    repeat' (first|(simp only [hd,pT,qA,lB,lC,aWx,aWy,aWA,↓eA,eG,jL,g8,↓kD,cJ,↓wA,↓wC,wB,cL,cK,bJ,bK,bL,reduceIte,reduceCtorEq,aA,bM,eP])|(refine cQ rfl ?_)|(refine cI hV rfl rfl ?_)|(refine cI hO rfl rfl ?_)|(refine cI hR rfl rfl ?_)|((first|apply cG|apply cH|apply cF)<;>intro h<;>try simp only [h]))
    all_goals exact fD _ rfl rfl
   ·have hd:decide (x.c=60)=false:=decide_eq_false hc
    obtain ⟨w,ws,hp⟩:=aHq 32 l
    have hoff:dO x.o=true:=by
     simp only [nZ,aL] at hv
     exact hv.1
    have hln:l.length<=1000:=by have:=mN hr; omega
    rw [aNy hv hr hc hp,aOi x l w ws hoff]
    have hM:=aKK x l w ws hoff hln hp
    simp only [mkC] at hM
    have hq:=aSX (w:=w) (ws:=ws) hoff
    generalize oQ x.o w ws=y at hM hq
    obtain ⟨q,r⟩:=y
    have hO2:=aDO ⟨q,x.d,x.p,x.c⟩ ⟨fB hq,h.2⟩
    by_cases hlong:200 < (r.length:Int)
    ·have hdl:decide (200 < (r.length:Int))=true:=decide_eq_true hlong
     rw [show aAY r=[108,111,110,103] from if_pos hlong]
     have hds:∀ a b c,kC [1] (Con.mk q x.d x.p x.c).s (fE a b c)=(Con.mk q a b c).s:=fun _ _ _=>rfl
     have hs1:gU [1] (Con.mk q x.d x.p x.c).s=some (fE x.d x.p x.c):=rfl
     have hs2:fL [1] (Con.mk q x.d x.p x.c).s=5:=rfl
     obtain ⟨nn,hap⟩:=sR x.d x.p x.c l [108,111,110,103]
     have hAp:=v8 x.d x.p x.c l [108,111,110,103] h.2 hml (by rw [eD]; first|decide|omega)
     rw [hap] at hAp
     simp only [mV] at hAp
     refine cW aDx [] ?_
     dsimp only [aDx,cT,c7]
     repeat' (first|(simp only [hd,hdl,hds,hs1,hs2,pT,qA,lB,lC,aWx,aWy,aWA,↓eA,eG,jL,g8,↓kD,cJ,↓wA,↓wC,wB,cL,cK,bJ,bK,bL,reduceIte,reduceCtorEq,aA,bM,eP])|(refine cQ rfl ?_)|(refine cI hV rfl rfl ?_)|(refine cI hO rfl rfl ?_)|(refine cI hR rfl rfl ?_)|(refine cI hM rfl rfl ?_)|(refine cI hO2 rfl rfl ?_)|(refine cI hAp rfl rfl ?_)|((first|apply cG|apply cH|apply cF)<;>intro h<;>try simp only [h]))
     all_goals exact fD _ rfl rfl
    ·have hdl:decide (200 < (r.length:Int))=false:=decide_eq_false hlong
     rw [show aAY r=r from if_neg hlong]
     have hds:∀ a b c,kC [1] (Con.mk q x.d x.p x.c).s (fE a b c)=(Con.mk q a b c).s:=fun _ _ _=>rfl
     have hs1:gU [1] (Con.mk q x.d x.p x.c).s=some (fE x.d x.p x.c):=rfl
     have hs2:fL [1] (Con.mk q x.d x.p x.c).s=5:=rfl
     obtain ⟨nn,hap⟩:=sR x.d x.p x.c l r
     have hAp:=v8 x.d x.p x.c l r h.2 hml (by rw [eD]; first|decide|omega)
     rw [hap] at hAp
     simp only [mV] at hAp
     refine cW aDx [] ?_
     dsimp only [aDx,cT,c7]
     repeat' (first|(simp only [hd,hdl,hds,hs1,hs2,pT,qA,lB,lC,aWx,aWy,aWA,↓eA,eG,jL,g8,↓kD,cJ,↓wA,↓wC,wB,bJ,bK,reduceIte,reduceCtorEq,eP])|(refine cQ rfl ?_)|(refine cI hV rfl rfl ?_)|(refine cI hO rfl rfl ?_)|(refine cI hR rfl rfl ?_)|(refine cI hM rfl rfl ?_)|(refine cI hO2 rfl rfl ?_)|(refine cI hAp rfl rfl ?_)|((first|apply cG|apply cH|apply cF)<;>intro h<;>try simp only [h]))
     all_goals exact fD _ rfl rfl
theorem aNQ {d p:List UInt8} {k:Int} (c r:List UInt8) (h:lv d p k=true):(aCv d p k c r).1.length + (aCv d p k c r).2.1.length<=1048576:=by
 have hs:=aHi h
 have hc:=aCV h
 unfold aCv
 split
 ·rename_i hg
  split
  ·simp only; omega
  ·have:=oC (k:=k) (by simp only [dX]; omega) hg.2
   simp only [aS,aC,aD]
   omega
 ·simp only; omega
theorem aJx {x:Con} {l:List UInt8} (h:x.ok0):(exC x l).1.ok0:=by
 unfold exC
 split
 ·rename_i hv
  split
  ·rename_i hr
   split
   ·exact h
   ·simp only [nZ,aL] at hv
    refine ⟨?_,aNQ l _ hv.2⟩
    unfold exA
    cases ha:aA8 x.o ((parts 32 l).headD []) (parts 32 l).tail with
    | none=>exact h.1
    | some y=>exact fB (aMA hv.1 ha)
  ·exact h
 ·exact h
theorem yI (x:Con) (l:List UInt8) (h:x.ok0) (hl:l.length<=1048576):Fn prog 13 [x.s,.str l] (fun rs=>rs=[(exC x l).1.s,.str (exC x l).2]):=by
 simpa [D.unown,aWJ] using fY (aAT x l h hl)
theorem aHO {w:World} {M:Nat->Prop} {d p:List UInt8} {c:Int} {cs:List Value} {fp:List Nat} (h:(fE d p c).rep w M cs fp):cs=[.string ⟨d.toArray⟩,.string ⟨p.toArray⟩,.int .i64 c]/\fp=[]:=by
 obtain ⟨_,_,_,_,rfl,rfl,⟨rfl,rfl⟩,_,_,_,_,rfl,rfl,⟨rfl,rfl⟩,_,_,_,_,rfl,rfl,⟨rfl,rfl⟩,rfl,rfl⟩:=h
 exact ⟨rfl,rfl⟩
theorem aKS {w:World} {M:Nat->Prop} {o:Off} {cs:List Value} {fp:List Nat} (h:o.o.rep w M cs fp):∃ v1 v2,cs=[.int .i64 o.day,v1,.int .i64 o.kept,.int .i64 o.moved,v2]:=by
 obtain ⟨_,_,_,_,rfl,rfl,⟨rfl,rfl⟩,_,_,_,_,rfl,rfl,⟨_,_,_,_,_,rfl,_⟩,_,_,_,_,rfl,rfl,⟨rfl,rfl⟩,_,_,_,_,rfl,rfl,⟨rfl,rfl⟩,_,_,_,_,rfl,rfl,⟨_,_,_,_,_,rfl,_⟩,rfl,rfl⟩:=h
 exact ⟨_,_,rfl⟩
theorem qB (x:Con) (k:Int) (h0:0<=k) (h1:k<=1000) (ho:x.o.ok0):xR prog 15 false x.o' [.int .i64 k] (fun x' rs=>x'=(Con.mk (mO k x.o) x.d x.p x.c).o'/\rs=[.int .i64 (k + jW x.o.cs + x.o.led.length)]):=by
 intro M oc vs w hM hob hnd hlt hgl hvs
 obtain ⟨cs,hrep,hv⟩:=hob
 obtain ⟨_,_,_,_,rfl,hf0,⟨rfl,rfl⟩,rfl,rfl⟩:=hvs
 obtain ⟨c1,c2,f1,f2,rfl,hfp,ho1,c3,c4,f3,f4,rfl,rfl,hlog,rfl,rfl⟩:=hrep
 obtain ⟨rfl,rfl⟩:=aHO hlog
 have hfp:oc.fp=f1:=by rw [hfp]; simp
 obtain ⟨v1,v2,rfl⟩:=aKS ho1
 have hv:oc.v=.agg #[.int .i64 x.o.day,v1,.int .i64 x.o.kept,.int .i64 x.o.moved,v2,.string ⟨x.d.toArray⟩,.string ⟨x.p.toArray⟩,.int .i64 x.c]:=hv
 show Calls Go.Proofs.Tryz.prog 15 #[oc.v,.int .i64 k] w _
 rw [hv]
 have hsz:(w.alloc (.cells #[.int .i64 x.o.day,v1,.int .i64 x.o.kept,.int .i64 x.o.moved,v2,.string ⟨x.d.toArray⟩,.string ⟨x.p.toArray⟩,.int .i64 x.c] 38)).heap.size=w.heap.size + 1:=s8 _ _
 have hkp:∀ b,b < w.heap.size->(w.alloc (.cells #[.int .i64 x.o.day,v1,.int .i64 x.o.kept,.int .i64 x.o.moved,v2,.string ⟨x.d.toArray⟩,.string ⟨x.p.toArray⟩,.int .i64 x.c] 38)).heap[b]?=w.heap[b]?:=fun b hb=>(MapKept.heap_alloc w _).2 b hb
 subst hfp
 have hC:=aDp x.o k h0 h1 ho M ⟨.agg #[.int .i64 x.o.day,v1,.int .i64 x.o.kept,.int .i64 x.o.moved,v2],0,oc.fp⟩ [.int .i64 k] _ (fun b hb=>by have:=hM b hb; omega) ⟨_,eC (by omega) (fun b _ hb=>hb) _ _ _ (fun b hb _=>hkp b hb) ho1,rfl⟩ hnd (fun b hb=>⟨by have:=(hlt b hb).1; omega,(hlt b hb).2⟩) (GOK.frame hgl (fun b _ hb=>hb) (by omega) (fun b hb _=>hkp b hb)) ⟨_,_,_,_,rfl,rfl,⟨rfl,rfl⟩,rfl,rfl⟩
 simp only [mkV] at hC
 have hgs:∀ w2:World,Went (w.alloc (.cells #[.int .i64 x.o.day,v1,.int .i64 x.o.kept,.int .i64 x.o.moved,v2,.string ⟨x.d.toArray⟩,.string ⟨x.p.toArray⟩,.int .i64 x.c] 38)) w2 (fun b=>b∈oc.fp)->Went w w2 (fun b=>b∈oc.fp):=fun w2 h=>⟨h.os,h.tape,h.output,by have:=h.size; omega,fun b hb hn=>(h.kept b (by omega) hn).trans (hkp b hb)⟩
 have hnt:Go.Proofs.Tryz.f15.ntmps=10:=rfl
 go_enter Go.Proofs.Tryz.func15,hnt
 clear hgl hM hnd hlog hf0
 go_wp2_with fail
 refine Calls.mono hC ?_
 rintro e w2 ⟨x',rs,us,fo,fp,rfl,⟨rfl,rfl⟩,⟨cs',hr,hv'⟩,⟨_,_,_,_,rfl,rfl,⟨rfl,rfl⟩,rfl,rfl⟩,hn,hm,hg⟩
 have hg:=hgs w2 hg
 have hm:∀ b∈fo ++ [],(b∈oc.fp\/w.heap.size<=b)/\b < w2.heap.size:=fun b hb=>⟨(hm b hb).1.imp id (fun h=>by omega),(hm b hb).2⟩
 clear hC hgs hkp hsz
 go_wp2
 go_ret
 refine ⟨_,_,_,fo,[],rfl,⟨rfl,rfl⟩,?_,⟨_,_,_,_,rfl,rfl,⟨rfl,rfl⟩,rfl,rfl⟩,hn,hm,hg⟩
 have hv':Value.agg #[.int .i64 x.o.day,v1,.int .i64 x.o.kept,.int .i64 x.o.moved,v2]=Value.agg cs'.toArray:=hv'
 injection hv' with hv'
 have hv':=congrArg Array.toList hv'
 simp only [] at hv'
 subst hv'
 exact ⟨_,⟨_,_,fo,[],rfl,by simp,by simpa using hr,_,_,[],[],rfl,rfl,⟨_,_,_,_,rfl,rfl,⟨rfl,rfl⟩,_,_,_,_,rfl,rfl,⟨rfl,rfl⟩,_,_,_,_,rfl,rfl,⟨rfl,rfl⟩,rfl,rfl⟩,rfl,rfl⟩,rfl⟩
end Go.Pe.Tryz
