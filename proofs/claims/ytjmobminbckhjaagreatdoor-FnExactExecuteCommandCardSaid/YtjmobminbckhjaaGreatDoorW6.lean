/- Numbers read out of texts, texts split at blanks, lists of numbers as texts, as a console has them: walked; A command's step and its reply: the program's stepFor and replyOf, walked; A command's reply: the program's replyOf, walked; What a command does to an office: the program's answer, walked; The program's ExecuteCommand, walked; The reference's commands: steps and words, walked; The reference's ExecuteCommand, walked; The reference's ExecuteCommand, walked: the whole; The reference's ExecuteCommand, walked: the whole; The replay of a log: both roads, walked, and the law of ReplayLog; The law of ReplayLog, walked; Marks on consoles; The law of ExecuteCommand; RunScript, walked -/
import Derived.Test.YtjmobminbckhjaaGreatDoorW5
import Derived.Test.YtjmobminbckhjaaGreatDoorShelf
import Derived.Test.YtjmobminbckhjaaGreatDoorPeD
import Derived.Test.YtjmobminbckhjaaGreatDoorMc1
import Derived.Test.YtjmobminbckhjaaGreatDoorMc2
import Derived.Test.YtjmobminbckhjaaGreatDoorMc3
import Derived.Test.YtjmobminbckhjaaGreatDoorMc4
import Derived.Test.YtjmobminbckhjaaGreatDoorMc5
import Derived.Test.YtjmobminbckhjaaGreatDoorMc6
import Derived.Test.YtjmobminbckhjaaGreatDoorMc7
import Derived.Test.YtjmobminbckhjaaGreatDoorMc8
import Derived.Handy
set_option maxRecDepth 100000
set_option maxHeartbeats 4000000
set_option linter.all false
open And renaming intro->aF
open Bool renaming and_eq_true->aL
open Int renaming reduceToNat->aD, toNat_zero->aG, toNat_natCast->aT
open List renaming length_cons->aC, length_nil->aE, mem_of_getElem?->aH, length_take->aM, take_of_length_le->aN, cons_append->aO, mem_cons_of_mem->aP, mem_cons_self->aQ, mem_singleton->aR, length_append->aS, extract_eq_take_drop->aU, length_drop->aV, mem_map->aW, length_eq_zero_iff->aX, length_map->aY, nil_append->a6, nodup_nil->a8, map_cons->bA, mem_cons->bB, length_pos_iff->bC, append_assoc->bD, take_length->bE, mem_append->bG
open Nat renaming reduceBEq->aA, le_refl->aJ, min_eq_left->aZ, reduceEqDiff->bJ, reduceAdd->bK, reduceSub->bL, reduceLT->bM
open Option renaming map_some->aB, getD_some->aI, isSome_some->aK, map_eq_some_iff->a7, getD_none->bF, map_map->bH
namespace Go.Pe.Tryz
open Go.Proofs.Tryz Go.Sort
theorem y0:∀ (l:List UInt8) (acc:Nat),l.all mD=true->∃ m:Nat,Lib.decFrom acc l=some m/\(m:Int)=l.foldl (fun n b=>10 * n + ((b.toNat:Int) - 48)) (acc:Int)
 | [],acc,_=>⟨acc,rfl,rfl⟩
 | b :: r,acc,h=>by
  simp only [List.all_cons,aL] at h
  have hb:=h.1
  simp only [mD,aL,decide_eq_true_eq] at hb
  obtain ⟨m,h1,h2⟩:=y0 r (acc * 10 + (b.toNat - 48)) h.2
  refine ⟨m,?_,?_⟩
  ·simp only [Lib.decFrom,Lib.digitVal,if_pos hb]; exact h1
  ·rw [h2,List.foldl_cons]
   congr 1; omega
theorem aB8 (u:Nat):Lib.decNat (Lib.decDigits u)=some u:=by
 obtain ⟨m,h1,h2⟩:=y0 (Lib.decDigits u) 0 (aES u)
 have h3:=aCl u
 unfold tX at h3
 have:m=u:=by
  have h4:(m:Int)=(u:Int):=h2.trans h3
  omega
 unfold Lib.decNat
 rw [if_neg (by simpa using mZ u),h1,this]
theorem aAl {n:Int} (h0:-999999<=n) (h1:n<=999999):Lib.atoiAll (Lib.itoa n)=.ok n:=by
 by_cases hn:0<=n
 ·obtain ⟨u,rfl⟩:=Int.eq_ofNat_of_zero_le hn
  have hl:=y4 5 u (by omega)
  rw [xT,Lib.atoiAll_short _ (by omega)]
  have hd:=aB8 u
  have hb:=lR u
  cases hu:Lib.decDigits u with
  | nil=>exact absurd hu (mZ u)
  | cons b r =>
   rw [hu] at hd hb
   have:=hb b aQ
   have e1:(b == 45)=false:=beq_eq_false_iff_ne.2 fun e=>by rw [e] at this; exact absurd this.1 (by decide)
   have e2:(b == 43)=false:=beq_eq_false_iff_ne.2 fun e=>by rw [e] at this; exact absurd this.1 (by decide)
   simp only [Lib.atoi,e1,e2,hd]
   rfl
 ·obtain ⟨u,rfl⟩:∃ u:Nat,n=-(u:Int):=⟨n.natAbs,by omega⟩
  have hl:=y4 5 u (by omega)
  rw [y3 u (by omega),Lib.atoiAll_short _ (by simp; omega)]
  simp only [Lib.atoi,aB8 u]
  rfl
theorem aK5 (s:List UInt8) (v:Int) (hl:s.length<=1000000000) (h:Lib.atoiAll s=.ok v):Fn prog 105 [.str s] (fun rs=>rs=[.int .i64 v,.err true]):=by
 intro M vs w hM hG hv
 obtain ⟨cs,us,f1,f2,rfl,hf,⟨rfl,rfl⟩,rfl,rfl⟩:=hv
 refine Calls.mono (Go.Proofs.Tryz.strconv_Atoi_ok ⟨s.toArray⟩ (by show s.toArray.size<=_; simp; omega) v (by simpa using h) w) ?_
 rintro e w' ⟨rfl,hw⟩
 refine ⟨_,[.int .i64 v,.nilIface],[],rfl,rfl,⟨[.int .i64 v],[.nilIface],[],[],rfl,rfl,⟨rfl,rfl⟩,[.nilIface],[],[],[],rfl,rfl,⟨rfl,rfl⟩,rfl,rfl⟩,a8,(fun b hb=>by cases hb),?_⟩
 rcases hw with rfl|⟨t,rfl⟩
 ·exact lL.refl _
 ·exact Lib.bytesWorld_below w _ t
theorem aIN (s:List UInt8) (hl:s.length<=1000000000) (h:∀ v,Lib.atoiAll s≠.ok v):Fn prog 105 [.str s] (fun rs=>∃ v,rs=[.int .i64 v,.err false]):=by
 intro M vs w hM hG hv
 obtain ⟨cs,us,f1,f2,rfl,hf,⟨rfl,rfl⟩,rfl,rfl⟩:=hv
 have hs:(⟨s.toArray⟩:ByteArray).size<=281474976710656:=by show s.toArray.size<=_; simp; omega
 have out:∀ (n:Int) (t:TypeId) (v:Value) (w':World),eV w' (fun b=>M b\/b∈([]:List Nat)) [.int .i64 n,.err false] [.int .i64 n,.iface t v] []:=fun n t v w' =>
  ⟨[.int .i64 n],[.iface t v],[],[],rfl,rfl,⟨rfl,rfl⟩,[.iface t v],[],[],[],rfl,rfl,⟨rfl,t,v,rfl⟩,rfl,rfl⟩
 cases ha:Lib.atoiAll s
 ·exact absurd ha (h _)
 ·obtain ⟨t,p,hv⟩:=aUc hG.fact
  refine Calls.mono (Go.Proofs.Tryz.strconv_Atoi_syntax_var ⟨s.toArray⟩ hs (ha.trans rfl) t p w hv) ?_
  rintro e w' ⟨N,rfl,_,_,hB⟩
  exact ⟨_,_,[],rfl,⟨_,rfl⟩,out _ _ _ w',a8,(fun b hb=>by cases hb),hB⟩
 ·obtain ⟨t,p,hv⟩:=aVb hG.fact
  refine Calls.mono (Go.Proofs.Tryz.strconv_Atoi_range_var ⟨s.toArray⟩ hs (by simpa using ha) t p w hv) ?_
  rintro e w' ⟨N,rfl,_,_,hB⟩
  exact ⟨_,_,[],rfl,⟨_,rfl⟩,out _ _ _ w',a8,(fun b hb=>by cases hb),hB⟩
theorem aHg (s:List UInt8) (hl:s.length<=1000000000):Fn prog 70 [.str s] (fun rs=>rs=rdR s):=by
 by_cases hx:∃ v,Lib.atoiAll s=.ok v
 ·obtain ⟨v,ha⟩:=hx
  have hA:=aK5 s v hl ha
  have hb:=Lib.atoiAll_bounds ha
  have hW:=e9 v (-999999) 999999
  cases hw:dC v (-999999) 999999 with
  | false =>
   have e:kM s=none:=by
    cases hr:kM s with
    | none=>rfl
    | some n =>
     obtain ⟨h1,h2,h3⟩:=s6 hr
     rw [<- h1,aAl h2 h3] at ha
     injection ha with ha
     subst ha
     rw [jW h2 h3] at hw; cases hw
   unfold rdR
   rw [e]
   rw [hw] at hW
   refine cW aFY [] ?_
   dsimp only [aFY,cT,c7]
   repeat' (first|(simp only [cJ,↓wA,↓wC,wB,cL,cK,bJ,bK,bL,reduceIte,reduceCtorEq,aA,bM])|(refine cI (hA) rfl rfl ?_)|(refine cM (hA) rfl rfl ?_)|(refine cI (hW) rfl rfl ?_)|(refine cM (hW) rfl rfl ?_)|((first|apply cG|apply cH|apply cF)<;>intro h<;>try simp only [h]))
  | true =>
   have hwi:=kT.1 hw
   have hD:=fG v (by simp only [dW]; omega)
   rw [hw] at hW
   by_cases hs:Lib.itoa v=s
   ·have e:kM s=some v:=by rw [<- hs]; exact aI1 hwi.1 hwi.2
    have hd:decide (Lib.itoa v=s)=true:=decide_eq_true hs
    unfold rdR
    rw [e]
    refine cW aFY [] ?_
    dsimp only [aFY,cT,c7]
    repeat' (first|(simp only [cJ,hd,↓wA,↓wC,wB,cL,cK,bJ,bK,bL,reduceIte,reduceCtorEq,aA,bM])|(refine cI (hA) rfl rfl ?_)|(refine cM (hA) rfl rfl ?_)|(refine cI (hW) rfl rfl ?_)|(refine cM (hW) rfl rfl ?_)|(refine cI (hD) rfl rfl ?_)|(refine cM (hD) rfl rfl ?_)|((first|apply cG|apply cH|apply cF)<;>intro h<;>try simp only [h]))
   ·have e:kM s=none:=by
     cases hr:kM s with
     | none=>rfl
     | some n =>
      obtain ⟨h1,h2,h3⟩:=s6 hr
      rw [<- h1,aAl h2 h3] at ha
      injection ha with ha
      subst ha
      exact absurd h1 hs
    have hd:decide (Lib.itoa v=s)=false:=decide_eq_false hs
    unfold rdR
    rw [e]
    refine cW aFY [] ?_
    dsimp only [aFY,cT,c7]
    repeat' (first|(simp only [cJ,hd,↓wA,↓wC,wB,cL,cK,bJ,bK,bL,reduceIte,reduceCtorEq,aA,bM])|(refine cI (hA) rfl rfl ?_)|(refine cM (hA) rfl rfl ?_)|(refine cI (hW) rfl rfl ?_)|(refine cM (hW) rfl rfl ?_)|(refine cI (hD) rfl rfl ?_)|(refine cM (hD) rfl rfl ?_)|((first|apply cG|apply cH|apply cF)<;>intro h<;>try simp only [h]))
 ·have hA:=aIN s hl (fun v e=>hx ⟨v,e⟩)
  have e:kM s=none:=by
   cases hr:kM s with
   | none=>rfl
   | some n =>
    obtain ⟨h1,h2,h3⟩:=s6 hr
    exact absurd ⟨n,by rw [<- h1]; exact aAl h2 h3⟩ hx
  unfold rdR
  rw [e]
  refine cW aFY [] ?_
  dsimp only [aFY,cT,c7]
  repeat' (first|(simp only [cJ,↓wA,↓wC,wB,cL,cK,bJ,bK,bL,reduceIte,reduceCtorEq,aA,bM])|((first|apply cG|apply cH|apply cF)<;>intro h<;>try simp only [h]))
  refine lT hA rfl fun rs h=>?_
  obtain ⟨v,rfl⟩:=h
  refine ⟨.inl rfl,?_⟩
  repeat' (first|(simp only [cJ,↓wA,↓wC,wB,cL,cK,bJ,bK,bL,reduceIte,reduceCtorEq,aA,bM])|((first|apply cG|apply cH|apply cF)<;>intro h<;>try simp only [h]))
theorem aAZ (s:List UInt8) (hl:s.length<=100000000):Fn prog 56 [.str s] (fun rs=>rs=rdR s):=by
 have hR:=aKI s hl
 have e:∃ n b,rdR s=[.int .i64 n,.bool b]:=by
  unfold rdR
  split<;>exact ⟨_,_,rfl⟩
 obtain ⟨n,b,e⟩:=e
 rw [e] at hR ⊢
 refine cW aUu [] ?_
 dsimp only [aUu,cT,c7]
 repeat' (first|(simp only [↓wA,↓wC,wB,cL,cK,bJ,bK,bL,reduceIte,reduceCtorEq,aA,bM])|(refine cI (hR) rfl rfl ?_)|(refine cM (hR) rfl rfl ?_)|((first|apply cG|apply cH|apply cF)<;>intro h<;>try simp only [h]))
theorem aKy {x:UInt8} {s w:List UInt8} (h:parts x s=[w]):w=s:=by
 have h1:x ∉ s:=(aDS x s).1 (by rw [h]; exact Nat.lt_succ_self 1)
 rw [aCV h1] at h
 injection h with h _
 exact h.symm
theorem yG (x:UInt8) (s:List UInt8):∀ w∈parts x s,w.length<=s.length:=by
 intro w hw
 unfold parts at hw
 rcases bG.1 hw with hw|hw
 ·have:∀ i,∀ u∈(zE x s i).1,u.length<=s.length:=by
   intro i
   induction i with
   | zero=>intro u hu; simp [zE] at hu
   | succ i ih =>
    intro u hu
    simp only [zE] at hu
    split at hu
    ·split at hu
     ·rcases bG.1 hu with hu|hu
      ·exact ih u hu
      ·rw [aR.1 hu,aV,aM]; omega
     ·exact ih u hu
    ·exact ih u hu
  exact this _ w hw
 ·rw [aR.1 hw,aV]; omega
theorem aGw (x:UInt8):∀ (k:Nat) (s:ByteArray),Lib.countB s ⟨#[x]⟩=k->(Lib.splitB ⟨#[x]⟩ 0 k s).map (·.data.toList)=parts x s.data.toList:=by
 intro k
 induction k with
 | zero =>
  intro s hk
  rcases Lib.indexB_cases s ⟨#[x]⟩ with h|⟨i,h,hle⟩
  ·have h':Lib.indexByte s.data.toList x=-1:=by rw [<- Lib.index_one]; exact h
   have hx:x ∉ s.data.toList:=fun hm=>by
    obtain ⟨j,hj⟩:=List.getElem?_of_mem hm
    exact Lib.indexByte_none h' j hj
   rw [aCV hx]; rfl
  ·rw [Lib.countB_hit s ⟨#[x]⟩ i (aJ 1) h] at hk; omega
 | succ k ih =>
  intro s hk
  rcases Lib.indexB_cases s ⟨#[x]⟩ with h|⟨i,h,hle⟩
  ·rw [Lib.countB_miss _ _ h] at hk; omega
  ·have hc:=Lib.countB_hit s ⟨#[x]⟩ i (aJ 1) h
   have h':Lib.indexByte s.data.toList x=(i:Int):=by rw [<- Lib.index_one]; exact h
   obtain ⟨h1,h2⟩:=Lib.indexByte_some h'
   have hi:=cV h1
   have hsz:s.data.toList.length=s.size:=by rw [Array.length_toList]; rfl
   have e1:(s.extract 0 (i + 0)).data.toList=s.data.toList.take i:=by
    simp only [ByteArray.data_extract,Array.toList_extract,aU,Nat.add_zero,Nat.sub_zero,List.drop_zero]
   have e2:(s.extract (i + (⟨#[x]⟩:ByteArray).size) s.size).data.toList=s.data.toList.drop (i + 1):=by
    simp only [ByteArray.data_extract,Array.toList_extract,aU]
    rw [aN (by rw [aV,hsz]; exact aJ _)]; rfl
   have e3:s.data.toList=s.data.toList.take i ++ x :: s.data.toList.drop (i + 1):=by
    rw [List.getElem?_eq_getElem hi] at h1
    injection h1 with h1
    have e4:x :: s.data.toList.drop (i + 1)=s.data.toList.drop i:=by rw [List.drop_eq_getElem_cons hi,h1]
    rw [e4,List.take_append_drop]
   have hx:x ∉ s.data.toList.take i:=fun hm=>by
    obtain ⟨j,hj⟩:=List.getElem?_of_mem hm
    rw [List.getElem?_take] at hj
    split at hj
    ·exact h2 j (by assumption) hj
    ·cases hj
   rw [Lib.splitB_hit _ _ _ _ i h,bA,e1,ih _ (by omega),e2]
   conv=>rhs; rw [e3]
   rw [wU hx]
theorem aJj {w:World} {M:Nat->Prop}:∀ L:List (List UInt8),(dl D.str L).rep w M (L.map fun s=>Value.string ⟨s.toArray⟩) []
 | []=>⟨rfl,rfl⟩
 | s :: L=>⟨[_],_,[],[],rfl,rfl,⟨rfl,rfl⟩,aJj L⟩
theorem aFZ (s:List UInt8) (x:UInt8) (hl:s.length<=1000000000):Fn prog 38 [.str s,.str [x]] (fun rs=>rs=[.sl true 1 (dl D.str (parts x s))]):=by
 intro M vs w hM hG hv
 obtain ⟨cs,us,f1,f2,rfl,hf,⟨rfl,rfl⟩,cs2,us2,f3,f4,rfl,hf2,⟨rfl,rfl⟩,rfl,rfl⟩:=hv
 obtain ⟨m,hm⟩:=aRn hG.fact
 refine Calls.mono (Go.Proofs.Tryz.strings_Split ⟨s.toArray⟩ ⟨#[x]⟩ m w (by show s.toArray.size < _; simp; omega) hm (aJ 1)) ?_
 rintro e w' ⟨rfl,rfl⟩
 have key:=aGw x _ ⟨s.toArray⟩ rfl
 have hlen:Lib.countB ⟨s.toArray⟩ ⟨#[x]⟩ + 1=(parts x s).length:=by
  have h1:=Lib.splitB_all ⟨#[x]⟩ (aJ 1) 0 _ ⟨s.toArray⟩ rfl
  rw [<- h1,<-aY (f:=fun b:ByteArray=>b.data.toList),key]
 have hval:(Lib.splitB ⟨#[x]⟩ 0 (Lib.countB ⟨s.toArray⟩ ⟨#[x]⟩) ⟨s.toArray⟩).map Value.string=(parts x s).map fun s=>Value.string ⟨s.toArray⟩:=by
  have e:parts x s=parts x (⟨s.toArray⟩:ByteArray).data.toList:=by simp
  rw [e,<-key,List.map_map]
  exact List.map_congr_left fun b _=>by simp
 rw [hlen,hval]
 refine ⟨_,_,[w.heap.size],rfl,rfl,⟨[_],[],[w.heap.size],[],rfl,rfl,⟨?_,some ⟨w.heap.size,0,none⟩,(parts x s).length,(parts x s).map fun s=>Value.string ⟨s.toArray⟩,[],?_,?_,aJj (parts x s),?_⟩,rfl,rfl⟩,by simp,?_,?_⟩
 ·exact (iU _).2 fun y hy=>by
   obtain ⟨z,_,rfl⟩:=aW.1 hy
   rfl
 ·rw [cO]
 ·rw [cO]; exact aJ _
 ·refine .inr ⟨w.heap.size,rfl,⟨⟨_,_,hZ.new w _ _,by simp,?_⟩,fun h=>absurd rfl h⟩,rfl⟩
  simp only []
  exact aN (aJ _)
 ·intro b hb
  rw [aR.1 hb]; exact aJ _
 ·exact ⟨rfl,rfl,rfl,by show w.heap.size<=(w.heap.push _).size; simp,fun b hb=>(Go.MapKept.heap_alloc w _).2 b hb⟩
theorem aJR (sep:List UInt8):∀ (L:List (List UInt8)) (x:List UInt8),L≠[]->Lib.join (L ++ [x]) sep=Lib.join L sep ++ (sep ++ x)
 | [],x,h=>absurd rfl h
 | a :: r,x,_=>by
  have h1:Lib.joinTail sep (r ++ [x])=Lib.joinTail sep r ++ (sep ++ x):=by simp [Lib.joinTail]
  simp only [aO,Lib.join_cons,h1,bD]
theorem aLn (v:List Int) (h:∀ n∈v,dW .i64 n):(Lib.join (v.map Lib.itoa) [32]).length<=22 * v.length:=by
 cases v with
 | nil=>simp [Lib.join]
 | cons a r =>
  have h1:=tG [32] 21 (r.map Lib.itoa) (fun x hx=>by
   obtain ⟨n,hn,rfl⟩:=aW.1 hx
   exact eT n (h n (aP _ hn)))
  have h2:=eT a (h a aQ)
  simp only [bA,Lib.join_cons,aS,aC,aY,aE] at h1 ⊢
  omega
def zP (v:List Int):Prop:=v.length<=1000/\∀ n∈v,0<=n/\dW .i64 n
theorem oJ (v:List Int) (h:zP v):Fn prog 109 [.sl false 1 (dl iD v)] (fun rs=>rs=[.str (m8 v)]):=by
 have hl:=h.1
 have hJ:=aAF v [32] (fun n hn=>(h.2 n hn).2) hl (by decide)
 unfold m8
 by_cases h0:v=[]
 ·have hd:decide ((v.length:Int)=0)=true:=by rw [h0]; rfl
  rw [if_pos h0]
  refine cW aJe [] ?_
  dsimp only [aJe,cT,c7]
  repeat' (first|(simp only [cJ,cO,hd,↓wA,↓wC,wB,cL,cK,bJ,bK,bL,reduceIte,reduceCtorEq,aA,bM])|((first|apply cG|apply cH|apply cF)<;>intro h<;>try simp only [h]))
 ·have:=bC.2 h0
  have hd:decide ((v.length:Int)=0)=false:=decide_eq_false (by omega)
  rw [if_neg h0]
  refine cW aJe [] ?_
  dsimp only [aJe,cT,c7]
  repeat' (first|(simp only [cJ,cO,hd,cY,↓wA,↓wC,wB,cL,cK,bJ,bK,bL,reduceIte,reduceCtorEq,aA,bM])|(refine cI hJ (by simp [dB,dI,D.unown,dM]) rfl ?_)|(refine cM hJ (by simp [dB,dI,D.unown,dM]) rfl ?_)|((first|apply cG|apply cH|apply cF)<;>intro h<;>try simp only [h]))
theorem p7 (v:List Int) (b:Bool) (h:zP v):Fn prog 91 [.sl false 1 (dl iD v),.bool b] (fun rs=>rs=[.str (if b then m8 v else qm)]):=by
 have hl:=h.1
 unfold m8
 cases b with
 | false =>
  refine cW aKt [] ?_
  dsimp only [aKt,cT,c7]
  repeat' (first|(simp only [cJ,↓wA,↓wC,wB,cL,cK,bJ,bK,bL,reduceIte,reduceCtorEq,aA,bM])|((first|apply cG|apply cH|apply cF)<;>intro h<;>try simp only [h]))
  all_goals rfl
 | true =>
  by_cases h0:v=[]
  ·have hd:decide ((v.length:Int)=0)=true:=by rw [h0]; rfl
   rw [if_pos h0,if_pos rfl]
   refine cW aKt [] ?_
   dsimp only [aKt,cT,c7]
   repeat' (first|(simp only [cJ,cO,hd,↓wA,↓wC,wB,cL,cK,bJ,bK,bL,reduceIte,reduceCtorEq,aA,bM])|((first|apply cG|apply cH|apply cF)<;>intro h<;>try simp only [h]))
  ·have hp:=bC.2 h0
   have hd0:decide ((v.length:Int)=0)=false:=decide_eq_false (by omega)
   obtain ⟨a,ha⟩:=dQ hp
   have hA:=fR a (h.2 a (aH ha)).1 (h.2 a (aH ha)).2
   have e0:Lib.itoa a=Lib.join ((v.take 1).map Lib.itoa) [32]:=by
    cases v with
    | nil=>exact absurd rfl h0
    | cons x r=>injection ha with ha; subst ha; simp [Lib.join_one]
   rw [if_neg h0,if_pos rfl]
   refine cW aKt [] ?_
   dsimp only [aKt,cT,c7]
   repeat' (first|(simp only [cJ,cO,c6,hd0,ha,aB,aG,eJ,iD,↓wA,↓wC,wB,cL,cK,bJ,bK,bL,reduceIte,reduceCtorEq,aA,bM])|(refine cI (hA) rfl rfl ?_)|(refine cM (hA) rfl rfl ?_)|(with_reducible refine cQ ?_ ?_; focus omega)|((first|apply cG|apply cH|apply cF)<;>intro h<;>try simp only [h]))
   refine d5 (fun i:Nat=>⟨[(0,.d (.sl false 1 (dl iD v))),(5,.d (.str (Lib.join ((v.take i).map Lib.itoa) [32]))),(6,.d (.int .i64 (i:Int)))],[]⟩) (fun i=>1<=i/\i<=v.length) (fun i=>v.length - i) 1 (by rw [<- e0]; exact (cU _ rfl ⟨⟨rfl,rfl⟩,⟨rfl,rfl⟩,⟨rfl,rfl⟩,trivial⟩)) ⟨aJ _,hp⟩ ?_
   rintro i ⟨h1,h2⟩
   by_cases hi:i < v.length
   ·have hd:decide ((i:Int) < (v.length:Int))=true:=decide_eq_true (by omega)
    obtain ⟨n,hn⟩:=dQ hi
    have hN:=fR n (h.2 n (aH hn)).1 (h.2 n (aH hn)).2
    have hj:=aLn (v.take i) (fun n hn=>(h.2 n (List.mem_of_mem_take hn)).2)
    have hk:=eT n (h.2 n (aH hn)).2
    rw [aM,aZ (by omega)] at hj
    have ej:Lib.join ((v.take (i + 1)).map Lib.itoa) [32]=Lib.join ((v.take i).map Lib.itoa) [32] ++ (32 :: Lib.itoa n):=by
     rw [e7 hn,List.map_append]
     exact aJR [32] _ _ fun e=>by
      have:=congrArg List.length e
      simp only [aY,aM,aE] at this
      omega
    repeat' (first|(simp only [cJ,cO,c6,hd,hn,aB,aT,eJ,iD,↓wA,↓wC,wB,cL,cK,bJ,bK,bL,reduceIte,reduceCtorEq,aA,bM])|(refine cI (hN) rfl rfl ?_)|(refine cM (hN) rfl rfl ?_)|(with_reducible refine cQ ?_ ?_; focus ((try simp only [aS,aC,aE]); omega))|(with_reducible refine cP ?_ ?_; focus (simp only [dW]; omega))|((first|apply cG|apply cH|apply cF)<;>intro h<;>try simp only [h]))
    all_goals
     refine ⟨i + 1,?_,⟨by omega,by omega⟩,by omega⟩
     rw [ej]
     (try simp only [bD,aO,a6])
     exact (cU _ rfl ⟨⟨rfl,rfl⟩,⟨rfl,rfl⟩,⟨rfl,rfl⟩,trivial⟩)
   ·have hd:decide ((i:Int) < (v.length:Int))=false:=decide_eq_false (by omega)
    have ht:v.take i=v:=aN (by omega)
    repeat' (first|(simp only [cJ,cO,hd,ht,↓wA,↓wC,wB,cL,cK,bJ,bK,bL,reduceIte,reduceCtorEq,aA,bM])|((first|apply cG|apply cH|apply cF)<;>intro h<;>try simp only [h]))
theorem aBT (o:Off) (id:Int) (ho:o.ok0):Fn prog 95 [o.s,.int .i64 id] (fun rs=>rs=[.str (aBQ o id)]):=by
 have hC:=aBb o id ho
 unfold aBQ kH
 unfold aCN at hC
 by_cases h1:dP o=true
 ·rw [if_pos h1] at hC
  by_cases h2:0<=fV o.cs id
  ·rw [if_pos h2] at hC
   rw [if_pos ⟨h1,h2⟩]
   refine cW aK4 [] ?_
   dsimp only [aK4,cT,c7]
   repeat' (first|(simp only [aWv,aWw,↓dF,cJ,↓wA,↓wC,wB,cL,cK,bJ,bK,bL,reduceIte,reduceCtorEq,aA,bM])|(refine cI hC (by simp [dB,dI,aWu]) rfl ?_)|((first|apply cG|apply cH|apply cF)<;>intro h<;>try simp only [h]))
   all_goals rfl
  ·rw [if_neg h2] at hC
   rw [if_neg (fun h=>h2 h.2)]
   refine cW aK4 [] ?_
   dsimp only [aK4,cT,c7]
   repeat' (first|(simp only [aWv,aWw,↓dF,cJ,↓wA,↓wC,wB,cL,cK,bJ,bK,bL,reduceIte,reduceCtorEq,aA,bM])|(refine cI hC (by simp [dB,dI,aWu]) rfl ?_)|((first|apply cG|apply cH|apply cF)<;>intro h<;>try simp only [h]))
   all_goals rfl
 ·rw [if_neg h1] at hC
  rw [if_neg (fun h=>h1 h.1)]
  refine cW aK4 [] ?_
  dsimp only [aK4,cT,c7]
  repeat' (first|(simp only [aWv,aWw,↓dF,cJ,↓wA,↓wC,wB,cL,cK,bJ,bK,bL,reduceIte,reduceCtorEq,aA,bM])|(refine cI hC (by simp [dB,dI,aWu]) rfl ?_)|((first|apply cG|apply cH|apply cF)<;>intro h<;>try simp only [h]))
  all_goals rfl
def wIx (w:List UInt8):Nat:=if w=nG then 0 else if w=kI then 1 else if w=oM then 2 else if w=gF then 3 else if w=kW then 4 else if w=tW then 5 else if w=uV then 6 else if w=uA then 7 else if w=gN then 8 else if w=oH then 9 else if w=n7 then 10 else if w=oS then 11 else 12
theorem wI (w:List UInt8) (k:Nat) (h:wIx w=k):decide (w=nG)=(k == 0)/\decide (w=kI)=(k == 1)/\decide (w=oM)=(k == 2)/\decide (w=gF)=(k == 3)/\decide (w=kW)=(k == 4)/\decide (w=tW)=(k == 5)/\decide (w=uV)=(k == 6)/\decide (w=uA)=(k == 7)/\decide (w=gN)=(k == 8)/\decide (w=oH)=(k == 9)/\decide (w=n7)=(k == 10)/\decide (w=oS)=(k == 11):=by
 subst h
 rcases o8 w with rfl|rfl|rfl|rfl|rfl|rfl|rfl|rfl|rfl|rfl|rfl|rfl|⟨h0,h1,h2,h3,h4,h5,h6,h7,h8,h9,lB,h11⟩
 all_goals first|exact ⟨rfl,rfl,rfl,rfl,rfl,rfl,rfl,rfl,rfl,rfl,rfl,rfl⟩|skip
 have e:wIx w=12:=by unfold wIx; rw [if_neg h0,if_neg h1,if_neg h2,if_neg h3,if_neg h4,if_neg h5,if_neg h6,if_neg h7,if_neg h8,if_neg h9,if_neg lB,if_neg h11]
 rw [e]
 exact ⟨decide_eq_false h0,decide_eq_false h1,decide_eq_false h2,decide_eq_false h3,decide_eq_false h4,decide_eq_false h5,decide_eq_false h6,decide_eq_false h7,decide_eq_false h8,decide_eq_false h9,decide_eq_false lB,decide_eq_false h11⟩
def aTn (s:Option Stp):List D:=match s with
 | some s=>[j7 s.k s.i s.a s.v,.bool true]
 | none=>[j7 0 0 0 0,.bool false]
theorem aH0 (w:List UInt8) (n:List Int) (h:lkp qD w=some (n.length:Int)):Fn prog 71 [.str w,.sl false 1 (dl iD n)] (fun rs=>rs=aTn (mB w n)):=by
 have hl:∀ {v:List UInt8} {m:Int},w=v->lkp qD v=some m->(n.length:Int)=m:=fun e hm=>by
  rw [e,hm] at h
  injection h with h
  exact h.symm
 rcases o8 w with hw|hw|hw|hw|hw|hw|hw|hw|hw|hw|hw|hw|hw
 ·have hI:=wI w 0 (by subst hw; rfl)
  have hn:=hl hw zG
  rw [(congrArg (mB · n) hw).trans (aSY n)]
  obtain ⟨a,rfl⟩:∃ a,n=[a]:=by
   match n,hn with
   | [a],_=>exact ⟨a,rfl⟩
  refine cW pC [] ?_
  dsimp only [pC,cT,c7]
  repeat' (first|(simp only [hI,cJ,cO,c6,List.getElem?_cons_zero,List.getElem?_cons_succ,aC,aE,aB,aD,eJ,iD,↓wA,↓wC,wB,cL,cK,bJ,bK,bL,reduceIte,reduceCtorEq,aA,bM,aA5])|(refine dL ?_)|(with_reducible refine cQ ?_ ?_; focus omega)|((first|apply cG|apply cH|apply cF)<;>intro h<;>try simp only [h]))
  all_goals rfl
 ·have hI:=wI w 1 (by subst hw; rfl)
  have hn:=hl hw vA
  rw [(congrArg (mB · n) hw).trans (aJw n)]
  obtain ⟨a,b,c,rfl⟩:∃ a b c,n=[a,b,c]:=by
   match n,hn with
   | [a,b,c],_=>exact ⟨a,b,c,rfl⟩
  refine cW pC [] ?_
  dsimp only [pC,cT,c7]
  repeat' (first|(simp only [hI,cJ,cO,c6,List.getElem?_cons_zero,List.getElem?_cons_succ,aC,aE,aB,aD,eJ,iD,↓wA,↓wC,wB,cL,cK,bJ,bK,bL,reduceIte,reduceCtorEq,aA,bM,aA5])|(refine dL ?_)|(with_reducible refine cQ ?_ ?_; focus omega)|((first|apply cG|apply cH|apply cF)<;>intro h<;>try simp only [h]))
  all_goals rfl
 ·have hI:=wI w 2 (by subst hw; rfl)
  have hn:=hl hw zL
  rw [(congrArg (mB · n) hw).trans (aMy n)]
  obtain ⟨a,b,rfl⟩:∃ a b,n=[a,b]:=by
   match n,hn with
   | [a,b],_=>exact ⟨a,b,rfl⟩
  refine cW pC [] ?_
  dsimp only [pC,cT,c7]
  repeat' (first|(simp only [hI,cJ,cO,c6,List.getElem?_cons_zero,List.getElem?_cons_succ,aC,aE,aB,aD,eJ,iD,↓wA,↓wC,wB,cL,cK,bJ,bK,bL,reduceIte,reduceCtorEq,aA,bM,aA5])|(refine dL ?_)|(with_reducible refine cQ ?_ ?_; focus omega)|((first|apply cG|apply cH|apply cF)<;>intro h<;>try simp only [h]))
  all_goals rfl
 ·have hI:=wI w 3 (by subst hw; rfl)
  have hn:=hl hw pG
  rw [(congrArg (mB · n) hw).trans (aEm n)]
  obtain ⟨a,rfl⟩:∃ a,n=[a]:=by
   match n,hn with
   | [a],_=>exact ⟨a,rfl⟩
  refine cW pC [] ?_
  dsimp only [pC,cT,c7]
  repeat' (first|(simp only [hI,cJ,cO,c6,List.getElem?_cons_zero,List.getElem?_cons_succ,aC,aE,aB,aD,eJ,iD,↓wA,↓wC,wB,cL,cK,bJ,bK,bL,reduceIte,reduceCtorEq,aA,bM,aA5])|(refine dL ?_)|(with_reducible refine cQ ?_ ?_; focus omega)|((first|apply cG|apply cH|apply cF)<;>intro h<;>try simp only [h]))
  all_goals rfl
 ·have hI:=wI w 4 (by subst hw; rfl)
  have hn:=hl hw vK
  rw [(congrArg (mB · n) hw).trans (aJg n)]
  obtain ⟨a,b,rfl⟩:∃ a b,n=[a,b]:=by
   match n,hn with
   | [a,b],_=>exact ⟨a,b,rfl⟩
  refine cW pC [] ?_
  dsimp only [pC,cT,c7]
  repeat' (first|(simp only [hI,cJ,cO,c6,List.getElem?_cons_zero,List.getElem?_cons_succ,aC,aE,aB,aD,eJ,iD,↓wA,↓wC,wB,cL,cK,bJ,bK,bL,reduceIte,reduceCtorEq,aA,bM,aA5])|(refine dL ?_)|(with_reducible refine cQ ?_ ?_; focus omega)|((first|apply cG|apply cH|apply cF)<;>intro h<;>try simp only [h]))
  all_goals rfl
 ·have hI:=wI w 5 (by subst hw; rfl)
  have hn:=hl hw aEb
  rw [(congrArg (mB · n) hw).trans (aVa n)]
  obtain ⟨a,rfl⟩:∃ a,n=[a]:=by
   match n,hn with
   | [a],_=>exact ⟨a,rfl⟩
  refine cW pC [] ?_
  dsimp only [pC,cT,c7]
  repeat' (first|(simp only [hI,cJ,cO,c6,List.getElem?_cons_zero,List.getElem?_cons_succ,aC,aE,aB,aD,eJ,iD,↓wA,↓wC,wB,cL,cK,bJ,bK,bL,reduceIte,reduceCtorEq,aA,bM,aA5])|(refine dL ?_)|(with_reducible refine cQ ?_ ?_; focus omega)|((first|apply cG|apply cH|apply cF)<;>intro h<;>try simp only [h]))
  all_goals rfl
 ·have hI:=wI w 6 (by subst hw; rfl)
  have hn:=hl hw aC6
  rw [(congrArg (mB · n) hw).trans (aMG n)]
  refine cW pC [] ?_
  dsimp only [pC,cT,c7]
  repeat' (first|(simp only [hI,cJ,cO,c6,List.getElem?_cons_zero,List.getElem?_cons_succ,aC,aE,aB,aD,eJ,iD,↓wA,↓wC,wB,cL,cK,bJ,bK,bL,reduceIte,reduceCtorEq,aA,bM,aA5])|(refine dL ?_)|(with_reducible refine cQ ?_ ?_; focus omega)|((first|apply cG|apply cH|apply cF)<;>intro h<;>try simp only [h]))
  all_goals rfl
 ·have hI:=wI w 7 (by subst hw; rfl)
  have hn:=hl hw aB9
  rw [(congrArg (mB · n) hw).trans (aLQ n)]
  refine cW pC [] ?_
  dsimp only [pC,cT,c7]
  repeat' (first|(simp only [hI,cJ,cO,c6,List.getElem?_cons_zero,List.getElem?_cons_succ,aC,aE,aB,aD,eJ,iD,↓wA,↓wC,wB,cL,cK,bJ,bK,bL,reduceIte,reduceCtorEq,aA,bM,aA5])|(refine dL ?_)|(with_reducible refine cQ ?_ ?_; focus omega)|((first|apply cG|apply cH|apply cF)<;>intro h<;>try simp only [h]))
  all_goals rfl
 ·have hI:=wI w 8 (by subst hw; rfl)
  have hn:=hl hw nN
  rw [(congrArg (mB · n) hw).trans (aAo n)]
  refine cW pC [] ?_
  dsimp only [pC,cT,c7]
  repeat' (first|(simp only [hI,cJ,cO,c6,List.getElem?_cons_zero,List.getElem?_cons_succ,aC,aE,aB,aD,eJ,iD,↓wA,↓wC,wB,cL,cK,bJ,bK,bL,reduceIte,reduceCtorEq,aA,bM,aA5])|(refine dL ?_)|(with_reducible refine cQ ?_ ?_; focus omega)|((first|apply cG|apply cH|apply cF)<;>intro h<;>try simp only [h]))
  all_goals rfl
 ·have hI:=wI w 9 (by subst hw; rfl)
  have hn:=hl hw wV
  rw [(congrArg (mB · n) hw).trans (aIK n)]
  refine cW pC [] ?_
  dsimp only [pC,cT,c7]
  repeat' (first|(simp only [hI,cJ,cO,c6,List.getElem?_cons_zero,List.getElem?_cons_succ,aC,aE,aB,aD,eJ,iD,↓wA,↓wC,wB,cL,cK,bJ,bK,bL,reduceIte,reduceCtorEq,aA,bM,aA5])|(refine dL ?_)|(with_reducible refine cQ ?_ ?_; focus omega)|((first|apply cG|apply cH|apply cF)<;>intro h<;>try simp only [h]))
  all_goals rfl
 ·have hI:=wI w 10 (by subst hw; rfl)
  have hn:=hl hw xC
  rw [(congrArg (mB · n) hw).trans (aIf n)]
  obtain ⟨a,rfl⟩:∃ a,n=[a]:=by
   match n,hn with
   | [a],_=>exact ⟨a,rfl⟩
  refine cW pC [] ?_
  dsimp only [pC,cT,c7]
  repeat' (first|(simp only [hI,cJ,cO,c6,List.getElem?_cons_zero,List.getElem?_cons_succ,aC,aE,aB,aD,eJ,iD,↓wA,↓wC,wB,cL,cK,bJ,bK,bL,reduceIte,reduceCtorEq,aA,bM,aA5])|(refine dL ?_)|(with_reducible refine cQ ?_ ?_; focus omega)|((first|apply cG|apply cH|apply cF)<;>intro h<;>try simp only [h]))
  all_goals rfl
 ·have hI:=wI w 11 (by subst hw; rfl)
  have hn:=hl hw wZ
  rw [(congrArg (mB · n) hw).trans (aIp n)]
  obtain ⟨a,rfl⟩:∃ a,n=[a]:=by
   match n,hn with
   | [a],_=>exact ⟨a,rfl⟩
  refine cW pC [] ?_
  dsimp only [pC,cT,c7]
  repeat' (first|(simp only [hI,cJ,cO,c6,List.getElem?_cons_zero,List.getElem?_cons_succ,aC,aE,aB,aD,eJ,iD,↓wA,↓wC,wB,cL,cK,bJ,bK,bL,reduceIte,reduceCtorEq,aA,bM,aA5])|(refine dL ?_)|(with_reducible refine cQ ?_ ?_; focus omega)|((first|apply cG|apply cH|apply cF)<;>intro h<;>try simp only [h]))
  all_goals rfl
 ·rw [xD hw] at h; cases h
theorem aFL:∀ (k:Nat) (v:List Int),v.length<=k->(∀ n∈v,gM n)->gM (nH v)
 | 0,v,h,hv=>by
  obtain rfl:=aX.1 (by omega:v.length=0)
  rw [nH,dif_pos (by decide)]
  exact ⟨by decide,by decide⟩
 | k + 1,v,h,hv=>by
  by_cases h1:v.length<=1
  ·rw [nH,dif_pos h1]
   cases v with
   | nil=>exact ⟨by decide,by decide⟩
   | cons a r=>exact hv a aQ
  ·rw [<- wY h1]
   exact aFL k _ (by have:=nJ v; omega) (u7 v hv)
theorem aCS {o:Off} (p:Cs->Bool) (h:dP o=true):zP (mR p o.cs):=by
 have hp:=eM h
 have hl:=rZ p o.cs
 refine ⟨by omega,fun n hn=>?_⟩
 obtain ⟨x,hx,rfl⟩:=aW.1 hn
 have:=fF (hp.2.2.2.2.2.2.2.2.2 x (List.mem_filter.1 hx).1)
 exact ⟨by omega,by simp only [dW]; omega⟩
theorem aL4 {o:Off} (h:dP o=true):zP (aF1 o):=by
 have hp:=eM h
 refine ⟨by simp [aF1],fun n hn=>?_⟩
 simp only [aF1,bB,List.not_mem_nil,or_false] at hn
 simp only [dW]
 omega
theorem aSZ:zP []:=⟨by decide,fun n hn=>by cases hn⟩
theorem aFT (o:Off) (h:dP o=true):Fn prog 110 [o.s] (fun rs=>rs=[.sl false 1 (dl iD (mR (rE o) o.cs)),.bool true]):=by
 have h1:=aIl o (fB h)
 unfold aA6 at h1
 rw [if_pos h] at h1
 simpa [D.unown,dM] using fX h1
theorem aGo (o:Off) (h:dP o=true):Fn prog 90 [o.s] (fun rs=>rs=[.sl false 1 (dl iD (mR (rE o) o.cs)),.bool true]):=by
 have h1:=aHC o (fB h)
 unfold aA6 at h1
 rw [if_pos h] at h1
 simpa [D.unown,dM] using fX h1
theorem aHo (o:Off) (h:dP o=true):Fn prog 111 [o.s] (fun rs=>rs=[.sl false 1 (dl iD (mR (rD o) o.cs)),.bool true]):=by
 have h1:=aHK o (fB h)
 unfold aA6 at h1
 rw [if_pos h] at h1
 simpa [D.unown,dM] using fX h1
theorem aHm (o:Off) (h:dP o=true):Fn prog 92 [o.s] (fun rs=>rs=[.sl false 1 (dl iD (mR (rD o) o.cs)),.bool true]):=by
 have h1:=aCi o (fB h)
 unfold aA6 at h1
 rw [if_pos h] at h1
 simpa [D.unown,dM] using fX h1
def aFO (n:Int) (o:Off):List Int:=if dC n 1 9=true then mR (aCD n) o.cs else []
theorem aBh {o:Off} (n:Int) (h:dP o=true):zP (aFO n o):=by
 unfold aFO
 split
 ·exact aCS _ h
 ·exact aSZ
theorem aBr {o:Off} (n:Int) (h:dP o=true):aAq n o=if dC n 1 9=true then some (aFO n o) else none:=by
 unfold aAq aFO
 rw [h]
 cases dC n 1 9<;>rfl
theorem aVt {o:Off} {n:Int} (h:dP o=true):(aKs n o).map D.unown=[.sl false 1 (dl iD (aFO n o)),.bool (dC n 1 9)]:=by
 unfold aKs aFO
 cases hw:dC n 1 9 with
 | true=>rw [if_pos ⟨h,rfl⟩,if_pos rfl]; simp [D.unown,dM]
 | false=>rw [if_neg (fun e=>by cases e.2),if_neg (fun e=>by cases e)]; simp [D.unown]; rfl
theorem xU (o:Off) (n:Int) (h:dP o=true):Fn prog 108 [o.s,.int .i64 n] (fun rs=>rs=[.sl false 1 (dl iD (aFO n o)),.bool (dC n 1 9)]):=by
 have h1:=fX (aFN o n (fB h))
 rw [aVt h] at h1
 exact h1
theorem x7 (o:Off) (n:Int) (h:dP o=true):Fn prog 94 [o.s,.int .i64 n] (fun rs=>rs=[.sl false 1 (dl iD (aFO n o)),.bool (dC n 1 9)]):=by
 have h1:=fX (aF3 o n (fB h))
 rw [aVt h] at h1
 exact h1
def yU (o:Off):Int:=if eN o.led=true then nH (o.led.map j6) else 0
theorem aHw {o:Off}:gM (yU o):=by
 unfold yU
 split
 ·exact aFL _ _ (aJ _) (fun n hn=>by
   obtain ⟨s,_,rfl⟩:=aW.1 hn
   exact aGm s)
 ·exact ⟨by decide,by decide⟩
theorem aGg {o:Off} (h:dP o=true):aD6 o=[.int .i64 (yU o),.bool (eN o.led)]:=by
 unfold aD6 yU
 cases hl:eN o.led with
 | true=>rw [if_pos ⟨h,rfl⟩,if_pos rfl]
 | false=>rw [if_neg (fun e=>by cases e.2),if_neg (fun e=>by cases e)]
theorem aFK {o:Off} (h:dP o=true):aEj o=if eN o.led=true then some (yU o) else none:=by
 unfold aEj yU
 cases hl:eN o.led with
 | true=>rw [if_pos ⟨h,rfl⟩,if_pos rfl,if_pos rfl]
 | false=>rw [if_neg (fun e=>by cases e.2),if_neg (fun e=>by cases e)]
def aJz (o:Off) (id:Int):List UInt8:=(kH o id).getD []
theorem yT {o:Off} (h:dP o=true) (id:Int):aCN o id=[.str (aJz o id),.bool (kH o id).isSome]:=by
 unfold aCN aJz kH
 rw [if_pos h]
 by_cases h2:0<=fV o.cs id
 ·rw [if_pos h2,if_pos ⟨h,h2⟩]; rfl
 ·rw [if_neg h2,if_neg (fun e=>h2 e.2)]; rfl
def aLo (x:Option (List UInt8)) (rs:List D):Prop:=∃ t,rs=[.str t,.bool x.isSome]/\∀ r,x=some r->t=r
theorem iS {x:List UInt8}:aLo (some x) [.str x,.bool true]:=⟨_,rfl,fun r e=>by injection e⟩
theorem iT {o:Off} {a:Int}:aLo (kH o a) [.str (aJz o a),.bool (kH o a).isSome]:=⟨_,rfl,fun r e=>by unfold aJz; rw [e]; rfl⟩
theorem l5 {α:Type} {c:Bool} {l:α} {f:α->List UInt8}:aLo ((if c=true then some l else none).map f) [.str (f l),.bool c]:=by
 cases c
 ·exact ⟨_,rfl,fun r e=>by cases e⟩
 ·exact ⟨_,rfl,fun r e=>by injection e⟩
theorem aBO (b o:Off) (w:List UInt8) (n:List Int) (hb:dP b=true) (ho:dP o=true) (h:lkp qD w=some (n.length:Int)):Fn prog 73 [b.s,o.s,.str w,.sl false 1 (dl iD n)] (aLo (fO b o w n)):=by
 have hp:=eM ho
 have hl:∀ {v:List UInt8} {m:Int},w=v->lkp qD v=some m->(n.length:Int)=m:=fun e hm=>by
  rw [e,hm] at h
  injection h with h
  exact h.symm
 rcases o8 w with hw|hw|hw|hw|hw|hw|hw|hw|hw|hw|hw|hw|hw
 ·have hI:=wI w 0 (by subst hw; rfl)
  have hn:=hl hw zG
  rw [(congrArg (fO b o · n) hw).trans (aNy b o n)]
  obtain ⟨a,rfl⟩:∃ a,n=[a]:=by
   match n,hn with
   | [a],_=>exact ⟨a,rfl⟩
  have hD:=fG o.day (by simp only [dW]; omega)
  refine cW o6 [] ?_
  dsimp only [o6,cT,c7]
  repeat' (first|(simp only [hI,cJ,cO,c6,List.getElem?_cons_zero,List.getElem?_cons_succ,aC,aE,aB,aD,eJ,iD,aWv,aWw,↓dF,gW,lY,l9,jG,gX,l8,lZ,jH,cR,↓wA,↓wC,wB,cL,cK,bJ,bK,bL,reduceIte,reduceCtorEq,aA,bM])|(refine cI (hD) rfl rfl ?_)|(refine cM (hD) rfl rfl ?_)|(with_reducible refine cQ ?_ ?_; focus omega)|((first|apply cG|apply cH|apply cF)<;>intro h<;>try simp only [h]))
  all_goals first|exact iS|exact iT|exact l5
 ·have hI:=wI w 1 (by subst hw; rfl)
  have hn:=hl hw vA
  rw [(congrArg (fO b o · n) hw).trans (aJs b o n)]
  obtain ⟨a,b',c,rfl⟩:∃ a b' c,n=[a,b',c]:=by
   match n,hn with
   | [a,b',c],_=>exact ⟨a,b',c,rfl⟩
  have hH:=l7 o a (fB ho)
  rw [yT ho] at hH
  rw [show n0 [a,b',c]=a from rfl]
  refine cW o6 [] ?_
  dsimp only [o6,cT,c7]
  repeat' (first|(simp only [hI,cJ,cO,c6,List.getElem?_cons_zero,List.getElem?_cons_succ,aC,aE,aB,aD,eJ,iD,aWv,aWw,↓dF,gW,lY,l9,jG,gX,l8,lZ,jH,cR,↓wA,↓wC,wB,cL,cK,bJ,bK,bL,reduceIte,reduceCtorEq,aA,bM])|(refine cI hH (by simp [dB,dI,aWu]) rfl ?_)|(refine cM hH (by simp [dB,dI,aWu]) rfl ?_)|(with_reducible refine cQ ?_ ?_; focus omega)|((first|apply cG|apply cH|apply cF)<;>intro h<;>try simp only [h]))
  all_goals first|exact iS|exact iT|exact l5
 ·have hI:=wI w 2 (by subst hw; rfl)
  have hn:=hl hw zL
  rw [(congrArg (fO b o · n) hw).trans (aNH b o n)]
  obtain ⟨a,b',rfl⟩:∃ a b',n=[a,b']:=by
   match n,hn with
   | [a,b'],_=>exact ⟨a,b',rfl⟩
  have hH:=l7 o a (fB ho)
  rw [yT ho] at hH
  rw [show n0 [a,b']=a from rfl]
  refine cW o6 [] ?_
  dsimp only [o6,cT,c7]
  repeat' (first|(simp only [hI,cJ,cO,c6,List.getElem?_cons_zero,List.getElem?_cons_succ,aC,aE,aB,aD,eJ,iD,aWv,aWw,↓dF,gW,lY,l9,jG,gX,l8,lZ,jH,cR,↓wA,↓wC,wB,cL,cK,bJ,bK,bL,reduceIte,reduceCtorEq,aA,bM])|(refine cI hH (by simp [dB,dI,aWu]) rfl ?_)|(refine cM hH (by simp [dB,dI,aWu]) rfl ?_)|(with_reducible refine cQ ?_ ?_; focus omega)|((first|apply cG|apply cH|apply cF)<;>intro h<;>try simp only [h]))
  all_goals first|exact iS|exact iT|exact l5
 ·have hI:=wI w 3 (by subst hw; rfl)
  have hn:=hl hw pG
  rw [(congrArg (fO b o · n) hw).trans (aDT b o n)]
  obtain ⟨a,rfl⟩:∃ a,n=[a]:=by
   match n,hn with
   | [a],_=>exact ⟨a,rfl⟩
  have hH:=xU b a hb
  have hT:=oJ _ (aBh a hb)
  rw [show n0 [a]=a from rfl,aBr a hb]
  refine cW o6 [] ?_
  dsimp only [o6,cT,c7]
  repeat' (first|(simp only [hI,cJ,cO,c6,List.getElem?_cons_zero,List.getElem?_cons_succ,aC,aE,aB,aD,eJ,iD,cY,aWv,aWw,↓dF,gW,lY,l9,jG,gX,l8,lZ,jH,cR,↓wA,↓wC,wB,cL,cK,bJ,bK,bL,reduceIte,reduceCtorEq,aA,bM])|(refine cM hH (by simp [dB,dI,aWu]) rfl ?_)|(refine cI hT (by simp [dB,dI,D.unown,dM]) rfl ?_)|(refine cM hT (by simp [dB,dI,D.unown,dM]) rfl ?_)|(with_reducible refine cQ ?_ ?_; focus omega)|((first|apply cG|apply cH|apply cF)<;>intro h<;>try simp only [h]))
  all_goals first|exact iS|exact iT|exact l5
 ·have hI:=wI w 4 (by subst hw; rfl)
  have hn:=hl hw vK
  rw [(congrArg (fO b o · n) hw).trans (aJd b o n)]
  obtain ⟨a,b',rfl⟩:∃ a b',n=[a,b']:=by
   match n,hn with
   | [a,b'],_=>exact ⟨a,b',rfl⟩
  have hH:=l7 o a (fB ho)
  rw [yT ho] at hH
  rw [show n0 [a,b']=a from rfl]
  refine cW o6 [] ?_
  dsimp only [o6,cT,c7]
  repeat' (first|(simp only [hI,cJ,cO,c6,List.getElem?_cons_zero,List.getElem?_cons_succ,aC,aE,aB,aD,eJ,iD,aWv,aWw,↓dF,gW,lY,l9,jG,gX,l8,lZ,jH,cR,↓wA,↓wC,wB,cL,cK,bJ,bK,bL,reduceIte,reduceCtorEq,aA,bM])|(refine cI hH (by simp [dB,dI,aWu]) rfl ?_)|(refine cM hH (by simp [dB,dI,aWu]) rfl ?_)|(with_reducible refine cQ ?_ ?_; focus omega)|((first|apply cG|apply cH|apply cF)<;>intro h<;>try simp only [h]))
  all_goals first|exact iS|exact iT|exact l5
 ·have hI:=wI w 5 (by subst hw; rfl)
  have hn:=hl hw aEb
  rw [(congrArg (fO b o · n) hw).trans (aQO b o n)]
  obtain ⟨a,rfl⟩:∃ a,n=[a]:=by
   match n,hn with
   | [a],_=>exact ⟨a,rfl⟩
  have hT:=oJ _ (aL4 ho)
  refine cW o6 [] ?_
  dsimp only [o6,cT,c7]
  repeat' (first|(simp only [hI,cJ,cO,c6,List.getElem?_cons_zero,List.getElem?_cons_succ,aC,aE,aB,aD,eJ,iD,aWv,aWw,↓dF,gW,lY,l9,jG,gX,l8,lZ,jH,cR,↓wA,↓wC,wB,cL,cK,bJ,bK,bL,reduceIte,reduceCtorEq,aA,bM])|(refine cI hT rfl rfl ?_)|(with_reducible refine cQ ?_ ?_; focus omega)|((first|apply cG|apply cH|apply cF)<;>intro h<;>try simp only [h]))
  all_goals first|exact iS|exact iT|exact l5
 ·have hI:=wI w 6 (by subst hw; rfl)
  have hn:=hl hw aC6
  rw [(congrArg (fO b o · n) hw).trans (aQR b o n)]
  have hD:=fG o.day (by simp only [dW]; omega)
  refine cW o6 [] ?_
  dsimp only [o6,cT,c7]
  repeat' (first|(simp only [hI,cJ,cO,c6,List.getElem?_cons_zero,List.getElem?_cons_succ,aC,aE,aB,aD,eJ,iD,aWv,aWw,↓dF,gW,lY,l9,jG,gX,l8,lZ,jH,cR,↓wA,↓wC,wB,cL,cK,bJ,bK,bL,reduceIte,reduceCtorEq,aA,bM])|(refine cI (hD) rfl rfl ?_)|(refine cM (hD) rfl rfl ?_)|(with_reducible refine cQ ?_ ?_; focus omega)|((first|apply cG|apply cH|apply cF)<;>intro h<;>try simp only [h]))
  all_goals first|exact iS|exact iT|exact l5
 ·have hI:=wI w 7 (by subst hw; rfl)
  have hn:=hl hw aB9
  rw [(congrArg (fO b o · n) hw).trans (aQ3 b o n)]
  have hH:=aFT o ho
  have hT:=oJ _ (aCS (rE o) ho)
  rw [show aAX (rE o) o=some _ from if_pos ho]
  refine cW o6 [] ?_
  dsimp only [o6,cT,c7]
  repeat' (first|(simp only [hI,cJ,cO,c6,List.getElem?_cons_zero,List.getElem?_cons_succ,aC,aE,aB,aD,eJ,iD,cY,aWv,aWw,↓dF,gW,lY,l9,jG,gX,l8,lZ,jH,cR,↓wA,↓wC,wB,cL,cK,bJ,bK,bL,reduceIte,reduceCtorEq,aA,bM])|(refine cI hH (by simp [dB,dI,aWu]) rfl ?_)|(refine cI hT (by simp [dB,dI,D.unown,dM]) rfl ?_)|(with_reducible refine cQ ?_ ?_; focus omega)|((first|apply cG|apply cH|apply cF)<;>intro h<;>try simp only [h]))
  all_goals first|exact iS|exact iT|exact l5
 ·have hI:=wI w 8 (by subst hw; rfl)
  have hn:=hl hw nN
  rw [(congrArg (fO b o · n) hw).trans (aEg b o n)]
  have hH:=aHo o ho
  have hT:=oJ _ (aCS (rD o) ho)
  rw [show aAX (rD o) o=some _ from if_pos ho]
  refine cW o6 [] ?_
  dsimp only [o6,cT,c7]
  repeat' (first|(simp only [hI,cJ,cO,c6,List.getElem?_cons_zero,List.getElem?_cons_succ,aC,aE,aB,aD,eJ,iD,cY,aWv,aWw,↓dF,gW,lY,l9,jG,gX,l8,lZ,jH,cR,↓wA,↓wC,wB,cL,cK,bJ,bK,bL,reduceIte,reduceCtorEq,aA,bM])|(refine cI hH (by simp [dB,dI,aWu]) rfl ?_)|(refine cI hT (by simp [dB,dI,D.unown,dM]) rfl ?_)|(with_reducible refine cQ ?_ ?_; focus omega)|((first|apply cG|apply cH|apply cF)<;>intro h<;>try simp only [h]))
  all_goals first|exact iS|exact iT|exact l5
 ·have hI:=wI w 9 (by subst hw; rfl)
  have hn:=hl hw wV
  rw [(congrArg (fO b o · n) hw).trans (aLH b o n)]
  have hH:=aF2 aHi o (fB ho)
  rw [aGg ho] at hH
  have hD:=fG (yU o) (lS aHw)
  rw [aFK ho]
  refine cW o6 [] ?_
  dsimp only [o6,cT,c7]
  repeat' (first|(simp only [hI,cJ,cO,c6,List.getElem?_cons_zero,List.getElem?_cons_succ,aC,aE,aB,aD,eJ,iD,aWv,aWw,↓dF,gW,lY,l9,jG,gX,l8,lZ,jH,cR,↓wA,↓wC,wB,cL,cK,bJ,bK,bL,reduceIte,reduceCtorEq,aA,bM])|(refine cI hH (by simp [dB,dI,aWu]) rfl ?_)|(refine cI (hD) rfl rfl ?_)|(refine cM (hD) rfl rfl ?_)|(with_reducible refine cQ ?_ ?_; focus omega)|((first|apply cG|apply cH|apply cF)<;>intro h<;>try simp only [h]))
  all_goals first|exact iS|exact iT|exact l5
 ·have hI:=wI w 10 (by subst hw; rfl)
  have hn:=hl hw xC
  rw [(congrArg (fO b o · n) hw).trans (aMl b o n)]
  obtain ⟨a,rfl⟩:∃ a,n=[a]:=by
   match n,hn with
   | [a],_=>exact ⟨a,rfl⟩
  have hH:=xU o a ho
  have hT:=oJ _ (aBh a ho)
  rw [show n0 [a]=a from rfl,aBr a ho]
  refine cW o6 [] ?_
  dsimp only [o6,cT,c7]
  repeat' (first|(simp only [hI,cJ,cO,c6,List.getElem?_cons_zero,List.getElem?_cons_succ,aC,aE,aB,aD,eJ,iD,cY,aWv,aWw,↓dF,gW,lY,l9,jG,gX,l8,lZ,jH,cR,↓wA,↓wC,wB,cL,cK,bJ,bK,bL,reduceIte,reduceCtorEq,aA,bM])|(refine cM hH (by simp [dB,dI,aWu]) rfl ?_)|(refine cI hT (by simp [dB,dI,D.unown,dM]) rfl ?_)|(refine cM hT (by simp [dB,dI,D.unown,dM]) rfl ?_)|(with_reducible refine cQ ?_ ?_; focus omega)|((first|apply cG|apply cH|apply cF)<;>intro h<;>try simp only [h]))
  all_goals first|exact iS|exact iT|exact l5
 ·have hI:=wI w 11 (by subst hw; rfl)
  have hn:=hl hw wZ
  rw [(congrArg (fO b o · n) hw).trans (aMw b o n)]
  obtain ⟨a,rfl⟩:∃ a,n=[a]:=by
   match n,hn with
   | [a],_=>exact ⟨a,rfl⟩
  have hH:=l7 o a (fB ho)
  rw [yT ho] at hH
  rw [show n0 [a]=a from rfl]
  refine cW o6 [] ?_
  dsimp only [o6,cT,c7]
  repeat' (first|(simp only [hI,cJ,cO,c6,List.getElem?_cons_zero,List.getElem?_cons_succ,aC,aE,aB,aD,eJ,iD,aWv,aWw,↓dF,gW,lY,l9,jG,gX,l8,lZ,jH,cR,↓wA,↓wC,wB,cL,cK,bJ,bK,bL,reduceIte,reduceCtorEq,aA,bM])|(refine cI hH (by simp [dB,dI,aWu]) rfl ?_)|(refine cM hH (by simp [dB,dI,aWu]) rfl ?_)|(with_reducible refine cQ ?_ ?_; focus omega)|((first|apply cG|apply cH|apply cF)<;>intro h<;>try simp only [h]))
  all_goals first|exact iS|exact iT|exact l5
 ·rw [xD hw] at h; cases h
def oP (o:Off) (q1 q2:Nat) (v1 v2:Value):D:=dU o (.lnk q1 v1) (.lnk q2 v2)
def oLs (o:Off) (v1 v2:Value):List (Value×Nat×D):=[(v1,4,dl Cs.s o.cs),(v2,1,dl D.str o.led)]
theorem fK (o:Off) (q1 q2:Nat) (v1 v2:Value):(oP o q1 q2 v1 v2).noOwn=true:=rfl
theorem gT (o:Off) (q1 q2:Nat) (v1 v2:Value):(oP o q1 q2 v1 v2).isV=true:=rfl
theorem f9 (o:Off) (q1 q2:Nat) (v1 v2:Value):(oP o q1 q2 v1 v2).size=5:=rfl
theorem eW (o:Off) (q1 q2:Nat) (v1 v2:Value):(oP o q1 q2 v1 v2).unown=oP o q1 q2 v1 v2:=rfl
theorem jD {ob:List Ob} {K:SV->Prop} {o:Off} {q1 q2:Nat} {v1 v2:Value}:eU ob (some 5) (oP o q1 q2 v1 v2) K=K (.d (oP o q1 q2 v1 v2)):=by simp [oP,dU,eU,D.size,D.noOwn]
def qG (ws:List (List UInt8)) (i:Nat):List Int:=(o5 (ws.take i)).getD []
theorem aAp:∀ (l:List (List UInt8)) (s:List UInt8),o5 (l ++ [s])=(o5 l).bind fun a=>(kM s).map fun n=>a ++ [n]
 | [],s=>by simp only [a6,o5]; cases kM s<;>rfl
 | x :: l,s=>by
  simp only [aO,o5,aAp l s]
  cases kM x with
  | none=>rfl
  | some a=>cases o5 l with
   | none=>rfl
   | some b=>cases kM s<;>rfl
theorem aAz {s:List UInt8} (h:kM s=none):∀ l:List (List UInt8),s∈l->o5 l=none
 | x :: l,hm=>by
  simp only [o5]
  cases hx:kM x with
  | none=>rfl
  | some a =>
   rcases bB.1 hm with rfl|hm
   ·rw [h] at hx; cases hx
   ·rw [aAz h l hm]; rfl
theorem uF:∀ {l:List (List UInt8)} {n:List Int},o5 l=some n->n.length=l.length
 | [],n,h=>by injection h with h; subst h; rfl
 | x :: l,n,h=>by
  simp only [o5] at h
  split at h
  ·cases hn:o5 l with
   | none=>rw [hn] at h; cases h
   | some m=>rw [hn] at h; injection h with h; subst h; simp [uF hn]
  ·cases h
theorem aEL:∀ {l:List (List UInt8)} {n:List Int},o5 l=some n->∀ x∈n,-999999<=x/\x<=999999
 | [],n,h=>by injection h with h; subst h; intro x hx; cases hx
 | y :: l,n,h=>by
  simp only [o5] at h
  split at h
  ·rename_i a ha
   cases hn:o5 l with
   | none=>rw [hn] at h; cases h
   | some m =>
    rw [hn] at h; injection h with h; subst h
    intro x hx
    rcases bB.1 hx with rfl|hx
    ·exact (s6 ha).2
    ·exact aEL hn x hx
  ·cases h
def rG (o:Off) (w:List UInt8) (ws:List (List UInt8)):Option (Option Off×List UInt8) :=
 match o5 ws with
 | none=>none
 | some n=>if lkp qD w=some (n.length:Int) then
   (match mB w n with
   | some s=>match gZ o s.k s.i s.a s.v with
    | some q=>(fO o q w n).map fun r=>(some q,r)
    | none=>none
   | none=>(fO o o w n).map fun r=>(none,r))
  else none
theorem aSv (o:Off) (w:List UInt8) (ws:List (List UInt8)):aA8 o w ws=(rG o w ws).map fun x=>(x.1.getD o,x.2):=by
 unfold aA8 rG
 cases o5 ws with
 | none=>rfl
 | some n =>
  simp only
  split
  ·cases mB w n with
   | none=>simp only [bH]; rfl
   | some s =>
    simp only
    cases gZ o s.k s.i s.a s.v with
    | none=>rfl
    | some q=>simp only [bH]; rfl
  ·rfl
def aLx (l:D) (x:Option (Option Off×List UInt8)):List D:=match x with
 | none=>[l,.str [],.bool false]
 | some (some q,r)=>[q.o,.str r,.bool true]
 | some (none,r)=>[l,.str r,.bool true]
theorem zF {P:PG} {s:St} {KK:SV->St->Prop} {f:FuncId} {args:List Opd} {ss:List SV} {ds rs:List D} {L:List (Value×Nat×D)} (hf:FnL P f L ds (fun qs=>qs=rs)) (ha:dB s.o ss=some ds) (hL:qN s.o L) (ho:rs.all D.allOwn=true) (hk:KK (mW (dV rs s.o).1) ⟨s.e,(dV rs s.o).2⟩):lK P s f args ss KK :=
 aTk hf ha hL fun _ e=>by subst e; exact ⟨ho,hk⟩
theorem pW {ob:List Ob} {o:Off} {q1 q2 r1 r2:Nat} {v1 v2:Value} {ss:List SV} {K:List D->Prop} (h1:ob[q1]?=some (.tag r1 v1)) (h2:ob[r1]?=some (.val (.sl false 4 (dl Cs.s o.cs)))) (h3:ob[q2]?=some (.tag r2 v2)) (h4:ob[r2]?=some (.val (.sl false 1 (dl D.str o.led))))
  (h:tN ob ss fun ys=>K (o.s :: ys)):tN ob (.d (oP o q1 q2 v1 v2) :: ss) K:=by
 refine ⟨r1,false,4,dl Cs.s o.cs,h1,h2,r2,false,1,dl D.str o.led,h3,h4,?_⟩
 have e1:(D.sl false 4 (dl Cs.s o.cs)).unown=.sl false 4 (dl Cs.s o.cs):=by simp [D.unown,fS]
 have e2:(D.sl false 1 (dl D.str o.led)).unown=.sl false 1 (dl D.str o.led):=by simp [D.unown,fA]
 rw [e1,e2]
 exact h
theorem aD9 {ob:List Ob} {r:Nat} {n:List Int} {ss:List SV} {K:List D->Prop} (h1:ob[r]?=some (.val (.sl true 1 (dl iD n)))) (h:tN ob ss fun ys=>K (.sl false 1 (dl iD n) :: ys)):tN ob (.own r :: ss) K:=by
 refine ⟨_,h1,?_⟩
 rw [show (D.sl true 1 (dl iD n)).unown=.sl false 1 (dl iD n) by simp [D.unown,dM]]
 exact h
theorem aEe {ob:List Ob} {x:List UInt8} {ss:List SV} {K:List D->Prop} (h:tN ob ss fun ys=>K (.str x :: ys)):tN ob (.d (.str x) :: ss) K:=h
theorem aGB {r:List UInt8} {rs:List D} (h:aLo (some r) rs):rs=[.str r,.bool true]:=by
 obtain ⟨t,rfl,ht⟩:=h
 rw [ht r rfl]; rfl
theorem aKi {rs:List D} (h:aLo none rs):∃ t,rs=[.str t,.bool false]:=by
 obtain ⟨t,rfl,_⟩:=h
 exact ⟨t,rfl⟩
theorem aIc {o q:Off} {w:List UInt8} {n:List Int} {s:Stp} (h:mB w n=some s) (hq:gZ o s.k s.i s.a s.v=some q):∃ r,fO o q w n=some r:=by
 rcases o8 w with rfl|rfl|rfl|rfl|rfl|rfl|rfl|rfl|rfl|rfl|rfl|rfl|hn
 ·exact ⟨_,aNy o q n⟩
 ·rw [aJs]; rw [aJw] at h; injection h with h; subst h; exact nO (.inl rfl) hq
 ·rw [aNH]; rw [aMy] at h; injection h with h; subst h; exact nO (.inr (.inl rfl)) hq
 ·rw [aDT]; rw [aEm] at h; injection h with h; subst h
  obtain ⟨l,hl⟩:=aDK hq
  rw [hl]; exact ⟨_,rfl⟩
 ·rw [aJd]; rw [aJg] at h; injection h with h; subst h; exact nO (.inr (.inr rfl)) hq
 ·exact ⟨_,aQO o q n⟩
 ·rw [aMG] at h; cases h
 ·rw [aLQ] at h; cases h
 ·rw [aAo] at h; cases h
 ·rw [aIK] at h; cases h
 ·rw [aIf] at h; cases h
 ·rw [aIp] at h; cases h
 ·obtain ⟨h0,h1,h2,h3,h4,h5,_⟩:=hn
  unfold mB at h
  rw [if_neg h0,if_neg h1,if_neg h2,if_neg h3,if_neg h4,if_neg h5] at h
  cases h
theorem aKG (o:Off) (v1 v2:Value) (w:List UInt8) (ws:List (List UInt8)) (ho:dP o=true) (hl:ws.length<=1000) (hs:∀ s∈ws,s.length<=1000) :
  FnL prog 37 (oLs o v1 v2) [oP o 2 3 v1 v2,.sl false 1 (dl D.str (w :: ws))] (fun rs=>rs=aLx (oP o 2 3 v1 v2) (rG o w ws)):=by
 have hoz:aDt.o.size=5:=rfl
 have hqo:∀ q:Off,q.o.noOwn=false:=aWP
 have hfold:(D.st (.cons (.int .i64 o.day) (.cons (.sl false 4 (dl Cs.s o.cs)) (.cons (.int .i64 o.kept) (.cons (.int .i64 o.moved) (.cons (.sl false 1 (dl D.str o.led)) .nil))))))=o.s:=rfl
 have hsub:((w :: ws).take (ws.length + 1)).drop (Int.toNat 1)=ws:=by simp
 refine aSM aVo [[1,1,1,1,1,1,0,1,1,0,0]] ?_
 dsimp only [aVo,cT,c7]
 simp only [oLs,z1,aFf,aEF,bA,List.map_nil,aO,a6]
 repeat' (first|(simp only [cJ,fK,gT,f9,eW,↓jD,cO,qB,hsub,cR,aC,↓wA,↓wC,wB,cL,cK,bJ,bK,bL,reduceIte,reduceCtorEq,aA,bM,dE])|(with_reducible refine cQ ?_ ?_; focus omega)|((first|apply cG|apply cH|apply cF)<;>intro h<;>try simp only [h]))
 refine qO [(7,1)] ws.length (fun i:Nat=>⟨[(1,.d (.sl false 1 (dl D.str (w :: ws)))),(2,.ptr 4 0 []),(4,.ptr 5 0 []),(7,.own 6),(23,.d (.sl false 1 (dl D.str ws))),(24,.d (.int .i64 ws.length)),(25,.d (.int .i64 i))],[.val (.sl false 4 (dl Cs.s o.cs)),.val (.sl false 1 (dl D.str o.led)),.tag 0 v1,.tag 1 v2,.box (oP o 2 3 v1 v2),.box aDt.o,.val (.sl true 1 (dl iD (qG ws i)))]⟩) (fun i=>o5 (ws.take i)=some (qG ws i)) ⟨rfl,trivial⟩ (cU _ rfl ⟨⟨rfl,rfl⟩,⟨rfl,rfl⟩,⟨rfl,rfl⟩,⟨rfl,rfl⟩,⟨rfl,rfl⟩,⟨rfl,rfl⟩,⟨rfl,rfl⟩,trivial⟩) rfl ?_ ?_
 ·intro i hlt hin hd h0
  obtain ⟨s,hr⟩:=dQ hlt
  have hP:=aHg s (by have:=hs s (aH hr); omega)
  have hlen:=uF hin
  rw [aM,aZ (by omega)] at hlen
  unfold rdR at hP
  cases hn:kM s with
  | none =>
   rw [hn] at hP
   have hg:rG o w ws=none:=by unfold rG; rw [aAz hn ws (aH hr)]
   rw [hg]
   repeat' (first|(simp only [hd,h0,hr,aT,aB,cJ,cO,c6,fK,gT,f9,eW,↓jD,↓wA,↓wC,wB,cL,cK,bJ,bK,bL,reduceIte,reduceCtorEq,aA,bM,dE])|(refine cI (hP) rfl rfl ?_)|(refine cM (hP) rfl rfl ?_)|((first|apply cG|apply cH|apply cF)<;>intro h<;>try simp only [h]))
   exact cQ rfl (cQ rfl (fD _ rfl rfl))
  | some n =>
   rw [hn] at hP
   have hu:o5 (ws.take (i + 1))=some (qG ws i ++ [n]):=by rw [e7 hr,aAp,hin,hn]; rfl
   have hu2:qG ws (i + 1)=qG ws i ++ [n]:=by unfold qG at hu ⊢; rw [hu]; rfl
   repeat' (first|(simp only [hd,h0,hr,aT,aB,cJ,cO,c6,fK,gT,f9,eW,↓jD,↓wA,↓wC,wB,cL,cK,bJ,bK,bL,reduceIte,reduceCtorEq,aA,bM,dE])|(refine cI (hP) rfl rfl ?_)|(refine cM (hP) rfl rfl ?_)|(refine cQ (fun e=>by cases e) ?_)|(with_reducible refine cQ ?_ ?_; focus omega)|(with_reducible refine cP ?_ ?_; focus (simp only [dW]; omega))|((first|apply cG|apply cH|apply cF)<;>intro h<;>try simp only [h]))
   refine ⟨i + 1,?_,⟨by omega,by rw [hu2]; exact hu⟩,by omega⟩
   rw [hu2,<-iM (f:=iD)]
   exact (cU _ rfl ⟨⟨rfl,rfl⟩,⟨rfl,rfl⟩,⟨rfl,rfl⟩,⟨rfl,rfl⟩,⟨rfl,rfl⟩,⟨rfl,rfl⟩,⟨rfl,rfl⟩,trivial⟩)
 ·intro hin hd
  rw [bE] at hin
  have hbd:=aEL hin
  have hlen:=uF hin
  generalize qG ws ws.length=n at hin hbd hlen
  have hw0:(w :: ws)[0]?=some w:=rfl
  cases hk:lkp qD w with
  | none =>
   have hg:rG o w ws=none:=by unfold rG; rw [hin]; simp only [hk]; exact if_neg (fun e=>by cases e)
   rw [hg]
   repeat' (first|(simp only [hd,cJ,c6,hw0,hk,aG,aB,Option.isSome_none,fK,gT,f9,eW,↓jD,↓wA,↓wC,wB,cL,cK,bJ,bK,bL,reduceIte,reduceCtorEq,aA,bM,dE])|(with_reducible refine cQ ?_ ?_; focus omega)|(refine cQ rfl ?_)|((first|apply cG|apply cH|apply cF)<;>intro h<;>try simp only [h]))
   exact fD _ rfl rfl
  | some m =>
   by_cases hm:m=(n.length:Int)
   ·subst hm
    have hdm:decide ((n.length:Int)=(n.length:Int))=true:=decide_eq_true rfl
    have hF:=aH0 w n hk
    cases hst:mB w n with
    | none =>
     rw [hst] at hF
     simp only [aTn,j7] at hF
     have hR:=aBO o o w n ho ho hk
     cases hr:fO o o w n with
     | none =>
      rw [hr] at hR
      have hg:rG o w ws=none:=by unfold rG; rw [hin]; simp [hk,hst,hr]
      rw [hg]
      repeat' (first|(simp only [hd,cJ,c6,cO,hw0,hk,hdm,aG,aB,aK,aI,fK,gT,f9,eW,↓jD,↓wA,↓wC,wB,cL,cK,bJ,bK,bL,reduceIte,reduceCtorEq,aA,bM,dE])|(with_reducible refine cQ ?_ ?_; focus omega)|(refine cQ rfl ?_)|(refine cI hF (by simp [dB,dI,kP,D.unown,dM]) rfl ?_)|(refine dL ?_)|(with_reducible refine aF ?_ ?_)|((first|apply cG|apply cH|apply cF)<;>intro h<;>try simp only [h]))
      all_goals
       refine aBF (pW rfl rfl rfl rfl (pW rfl rfl rfl rfl (aEe (aD9 rfl ⟨_,hR,?_⟩))))
       intro rs h
       obtain ⟨t,rfl⟩:=aKi h
       refine ⟨rfl,?_⟩
       repeat' (first|(simp only [cJ,fK,gT,f9,eW,↓jD,↓wA,↓wC,wB,cL,cK,bJ,bK,bL,reduceIte,reduceCtorEq,aA,bM,dE])|((first|apply cG|apply cH|apply cF)<;>intro h<;>try simp only [h]))
       exact cQ rfl (cQ rfl (fD _ rfl rfl))
     | some r =>
      rw [hr] at hR
      have hg:rG o w ws=some (none,r):=by unfold rG; rw [hin]; simp [hk,hst,hr]
      rw [hg]
      repeat' (first|(simp only [hd,cJ,c6,cO,hw0,hk,hdm,aG,aB,aK,aI,fK,gT,f9,eW,↓jD,↓wA,↓wC,wB,cL,cK,bJ,bK,bL,reduceIte,reduceCtorEq,aA,bM,dE])|(with_reducible refine cQ ?_ ?_; focus omega)|(refine cQ rfl ?_)|(refine cI hF (by simp [dB,dI,kP,D.unown,dM]) rfl ?_)|(refine dL ?_)|(with_reducible refine aF ?_ ?_)|((first|apply cG|apply cH|apply cF)<;>intro h<;>try simp only [h]))
      all_goals
       refine aBF (pW rfl rfl rfl rfl (pW rfl rfl rfl rfl (aEe (aD9 rfl ⟨_,hR,?_⟩))))
       intro rs h
       obtain rfl:=aGB h
       refine ⟨rfl,?_⟩
       repeat' (first|(simp only [cJ,fK,gT,f9,eW,↓jD,↓wA,↓wC,wB,cL,cK,bJ,bK,bL,reduceIte,reduceCtorEq,aA,bM,dE])|((first|apply cG|apply cH|apply cF)<;>intro h<;>try simp only [h]))
       exact cQ rfl (cQ rfl (fD _ rfl rfl))
    | some s =>
     rw [hst] at hF
     simp only [aTn,j7] at hF
     have hT:=aHe o s.k s.i s.a s.v (fB ho)
     cases hq:gZ o s.k s.i s.a s.v with
     | none =>
      rw [hq] at hT
      simp only [s7,j7] at hT
      have hg:rG o w ws=none:=by unfold rG; rw [hin]; simp [hk,hst,hq]
      rw [hg]
      repeat' (first|(simp only [hd,cJ,c6,cO,hw0,hk,hdm,aG,aB,aK,aI,fK,gT,f9,eW,↓jD,↓wA,↓wC,wB,cL,cK,bJ,bK,bL,reduceIte,reduceCtorEq,aA,bM,dE])|(with_reducible refine cQ ?_ ?_; focus omega)|(refine cQ rfl ?_)|(refine cI hF (by simp [dB,dI,kP,D.unown,dM]) rfl ?_)|((first|apply cG|apply cH|apply cF)<;>intro h<;>try simp only [h]))
      refine c8 (gO.refl _) ?_
      repeat' (first|(simp only [cJ,fK,gT,f9,eW,↓jD,↓wA,↓wC,wB,cL,cK,bJ,bK,bL,reduceIte,reduceCtorEq,aA,bM,dE])|((first|apply cG|apply cH|apply cF)<;>intro h<;>try simp only [h]))
      refine aBF (pW rfl rfl rfl rfl ⟨_,hT,?_⟩)
      rintro _ rfl
      refine ⟨by simp [aWQ,D.allOwn],?_⟩
      repeat' (first|(simp only [cJ,hqo,aWO,aWM,fK,gT,f9,eW,↓jD,↓wA,↓wC,wB,cL,cK,bJ,bK,bL,reduceIte,reduceCtorEq,aA,bM,dE])|(refine cQ rfl ?_)|((first|apply cG|apply cH|apply cF)<;>intro h<;>try simp only [h]))
      exact fD _ rfl rfl
     | some q =>
      rw [hq] at hT
      simp only [s7,j7] at hT
      obtain ⟨r,hr⟩:=aIc hst hq
      have hg:rG o w ws=some (some q,r):=by unfold rG; rw [hin]; simp [hk,hst,hq,hr]
      rw [hg]
      have hR:=aBO o q w n ho (yI hq) hk
      rw [hr] at hR
      have hR:=aJb hR fun _ h=>aGB h
      repeat' (first|(simp only [hd,cJ,c6,cO,hw0,hk,hdm,aG,aB,aK,aI,fK,gT,f9,eW,↓jD,↓wA,↓wC,wB,cL,cK,bJ,bK,bL,reduceIte,reduceCtorEq,aA,bM,dE])|(with_reducible refine cQ ?_ ?_; focus omega)|(refine cQ rfl ?_)|(refine cI hF (by simp [dB,dI,kP,D.unown,dM]) rfl ?_)|((first|apply cG|apply cH|apply cF)<;>intro h<;>try simp only [h]))
      refine c8 (s':=⟨[(1,.d (.sl false 1 (dl D.str (w :: ws)))),(2,.ptr 4 0 []),(4,.ptr 5 0 []),(7,.own 6),(15,.ptr 8 0 []),(16,.ptr 9 0 [])],[.dead,.dead,.tag 0 v1,.tag 1 v2,.box o.s,.box aDt.o,.val (.sl true 1 (dl iD n)),.mp qD,.box (oP o 2 3 v1 v2),.box (j7 s.k s.i s.a s.v)]⟩) ((gB 4 2 0 none [1] rfl rfl rfl rfl (by decide) rfl).trans ((gB 4 3 1 none [4] rfl rfl rfl rfl (by decide) rfl).trans (cU [] rfl ⟨⟨rfl,rfl⟩,⟨rfl,rfl⟩,⟨rfl,rfl⟩,⟨rfl,rfl⟩,⟨rfl,rfl⟩,⟨rfl,rfl⟩,trivial⟩))) ?_
      simp only [j7]
      repeat' (first|(simp only [cJ,hqo,aWv,aWw,aWz,↓dF,aWO,aWM,↓wA,↓wC,wB,cL,cK,bJ,bK,bL,reduceIte,reduceCtorEq,aA,bM,dE])|(refine cQ rfl ?_)|(refine dL ?_)|(with_reducible refine aF ?_ ?_)|(refine cI hT (by simp [dB,dI,aWu]) rfl ?_)|((first|apply cG|apply cH|apply cF)<;>intro h<;>try simp only [h]))
      refine fD (.cons (.int .i64 q.day) (.cons (.sl true 4 (dl Cs.o q.cs)) (.cons (.int .i64 q.kept) (.cons (.int .i64 q.moved) (.cons (.sl true 1 (dl D.str q.led)) .nil))))) rfl (cQ rfl (cQ rfl ?_))
      rw [show D.st (.cons (.int .i64 q.day) (.cons (.sl true 4 (dl Cs.o q.cs)) (.cons (.int .i64 q.kept) (.cons (.int .i64 q.moved) (.cons (.sl true 1 (dl D.str q.led)) .nil)))))=q.o from rfl]
      repeat' (first|(simp only [cJ,c6,hw0,aG,aB,hqo,aWv,aWw,aWz,↓dF,aWO,aWM,↓wA,↓wC,wB,cL,cK,bJ,bK,bL,reduceIte,reduceCtorEq,aA,bM,dE])|(with_reducible refine cQ ?_ ?_; focus omega)|(refine cQ rfl ?_)|(refine dL ?_)|(with_reducible refine aF ?_ ?_)|(refine cI hR (by show some [o.s,q.o.unown,D.str w,(D.sl true 1 (dl iD n)).unown]=_; rw [aWH]; simp [D.unown,dM]) rfl ?_)|((first|apply cG|apply cH|apply cF)<;>intro h<;>try simp only [h]))
      all_goals exact fD _ rfl (cQ rfl (cQ rfl (cQ rfl rfl)))
   ·have hdm:decide (m=(n.length:Int))=false:=decide_eq_false hm
    have hg:rG o w ws=none:=by unfold rG; rw [hin]; simp only [hk]; exact if_neg (fun e=>by injection e with e; exact hm e)
    rw [hg]
    repeat' (first|(simp only [hd,cJ,c6,cO,hw0,hk,hdm,aG,aB,aK,aI,fK,gT,f9,eW,↓jD,↓wA,↓wC,wB,cL,cK,bJ,bK,bL,reduceIte,reduceCtorEq,aA,bM,dE])|(with_reducible refine cQ ?_ ?_; focus omega)|(refine cQ rfl ?_)|((first|apply cG|apply cH|apply cF)<;>intro h<;>try simp only [h]))
    exact fD _ rfl rfl
theorem aH5 (q1 q2 q3 q4:Nat) (o:Off) (v1 v2:Value) (w:List UInt8) (ws:List (List UInt8)) (ho:dP o=true) (hl:ws.length<=1000) (hs:∀ s∈ws,s.length<=1000) :
  FnL prog 37 (oLs o v1 v2) [oP o q1 q2 v1 v2,.sl false 1 (dl D.str (w :: ws))] (fun rs=>rs=aLx (oP o q3 q4 v1 v2) (rG o w ws)):=by
 intro M vs w0 hM hg hL hv
 refine (aKG o v1 v2 w ws ho hl hs M vs w0 hM hg hL hv).mono ?_
 rintro e w' ⟨rs,us,fp,h1,rfl,h2,h3⟩
 refine ⟨_,us,fp,h1,rfl,?_,h3⟩
 cases ha:rG o w ws with
 | none=>rw [ha] at h2; exact h2
 | some y =>
  obtain ⟨_|q,r⟩:=y
  ·rw [ha] at h2; exact h2
  ·rw [ha] at h2; exact h2
def aCe (d p:List UInt8) (k:Int) (c r:List UInt8):List UInt8×List UInt8×Int :=
 if lv d p k=true/\gG c r=true then (if k=60 then (d,p,k) else (d,p ++ (mJ k c r ++ [10]),k + 1)) else (d,p,k)
theorem sF (d p:List UInt8) (k:Int) (c r:List UInt8):∃ n,aJZ d p k c r=[fE (aCe d p k c r).1 (aCe d p k c r).2.1 (aCe d p k c r).2.2,.int .i64 n]:=by
 unfold aJZ aCe
 split
 ·split<;>exact ⟨_,rfl⟩
 ·exact ⟨_,rfl⟩
def aA4 (r:List UInt8):List UInt8:=if 200 < (r.length:Int) then [108,111,110,103] else r
def exA (x:Con) (l:List UInt8) (a:Option (Off×List UInt8)):Con×List UInt8 :=
 let r:=aA4 ((a.map (·.2)).getD qm)
 let g:=aCe x.d x.p x.c l r
 (⟨(a.map (·.1)).getD x.o,g.1,g.2.1,g.2.2⟩,r)
def exC (x:Con) (l:List UInt8):Con×List UInt8 :=
 if oG x=true then
  if gG l []=true then
   if x.c=60 then (x,[102,117,108,108]) else exA x l (aA8 x.o ((parts 32 l).headD []) (parts 32 l).tail)
  else (x,[98,97,100])
 else (x,[110,111])
theorem aGy (x:UInt8) (s:List UInt8):∃ w ws,parts x s=w :: ws:=by
 have h:=sD x s
 cases hp:parts x s with
 | nil=>rw [hp] at h; cases h
 | cons w ws=>exact ⟨w,ws,rfl⟩
theorem aB2 (x:Con) (h:x.ok0):Fn prog 35 [x.s] (fun rs=>rs=[x.o']):=by
 have hC:=wD x.o h.1
 refine cW aUA [[1,0]] ?_
 dsimp only [aUA,cT,c7]
 repeat' (first|(simp only [aWx,aWy,cJ,↓wA,↓wC,wB,cL,cK,bJ,bK,bL,reduceIte,reduceCtorEq,aA,bM,eQ])|((first|apply cG|apply cH|apply cF)<;>intro h<;>try simp only [h]))
 refine c8 (gI 0 rfl) ?_
 simp only [cL,cK,aWB,↓wA,↓wC,wB,cL,cK,bJ,bK,bL,reduceIte,reduceCtorEq,aA,bM,eQ]
 repeat' (first|(simp only [fT,x6,oW,lA,qU,lC,eF,jQ,iC,↓dF,↓kF,aWx,aWy,aWv,aWw,aWO,aWM,aWP,cJ,↓wA,↓wC,wB,cL,cK,bJ,bK,bL,reduceIte,reduceCtorEq,aA,bM,eQ])|(refine cQ rfl ?_)|(refine dL ?_)|(with_reducible refine aF ?_ ?_)|(refine cI hC (by simp [dB,dI,aWu]) rfl ?_)|((first|apply cG|apply cH|apply cF)<;>intro h<;>try simp only [h]))
 all_goals rfl
def aPu:D:=oZ aDt.o (fE [] [] 0)
theorem aWK (x:Con):x.o'.noOwn=false:=by simp [Con.o',oZ,D.noOwn,aWP]
theorem aNF {x:Con} {l:List UInt8} (h:oG x=false):exC x l=(x,[110,111]):=by unfold exC; rw [if_neg (by rw [h]; decide)]
theorem aJh {x:Con} {l:List UInt8} (h:oG x=true) (h2:gG l []=false):exC x l=(x,[98,97,100]):=by unfold exC; rw [if_pos h,if_neg (by rw [h2]; decide)]
theorem aG3 {x:Con} {l:List UInt8} (h:oG x=true) (h2:gG l []=true) (h3:x.c=60):exC x l=(x,[102,117,108,108]):=by unfold exC; rw [if_pos h,if_pos h2,if_pos h3]
theorem aLI {x:Con} {l w:List UInt8} {ws:List (List UInt8)} (h:oG x=true) (h2:gG l []=true) (h3:¬ x.c=60) (hp:parts 32 l=w :: ws):exC x l=exA x l (aA8 x.o w ws):=by
 unfold exC; rw [if_pos h,if_pos h2,if_neg h3,hp]; rfl
theorem aAG (x:Con) (l:List UInt8) (h:x.ok0) (hl:l.length<=1048576):Fn prog 13 [x.s,.str l] (fun rs=>rs=[(exC x l).1.o',.str (exC x l).2]):=by
 have hV:=qT x h
 have hC:=aB2 x h
 have hml:l.length<=maxLen:=by rw [eD]; omega
 have hR:=nP l [] hml (by rw [eD]; decide)
 cases hv:oG x with
 | false =>
  rw [hv] at hV
  rw [aNF hv]
  refine cW aHu [] ?_
  dsimp only [aHu,cT,c7]
  repeat' (first|(simp only [aWx,aWy,aWA,↓eA,aWK,aWL,aWI,cJ,↓wA,↓wC,wB,cL,cK,bJ,bK,bL,reduceIte,reduceCtorEq,aA,bM,eQ])|(refine cQ rfl ?_)|(refine cI hV (by simp [dB,dI,aWB]) rfl ?_)|(refine cI hC (by simp [dB,dI,aWB]) rfl ?_)|((first|apply cG|apply cH|apply cF)<;>intro h<;>try simp only [h]))
  exact fD _ rfl rfl
 | true =>
  rw [hv] at hV
  cases hr:gG l [] with
  | false =>
   rw [hr] at hR
   rw [aJh hv hr]
   refine cW aHu [] ?_
   dsimp only [aHu,cT,c7]
   repeat' (first|(simp only [aWx,aWy,aWA,↓eA,aWK,aWL,aWI,cJ,↓wA,↓wC,wB,cL,cK,bJ,bK,bL,reduceIte,reduceCtorEq,aA,bM,eQ])|(refine cQ rfl ?_)|(refine cI hV (by simp [dB,dI,aWB]) rfl ?_)|(refine cI hC (by simp [dB,dI,aWB]) rfl ?_)|(refine cI hR rfl rfl ?_)|((first|apply cG|apply cH|apply cF)<;>intro h<;>try simp only [h]))
   exact fD _ rfl rfl
  | true =>
   rw [hr] at hR
   by_cases hc:x.c=60
   ·have hd:decide (x.c=60)=true:=decide_eq_true hc
    rw [aG3 hv hr hc]
    refine cW aHu [] ?_
    dsimp only [aHu,cT,c7]
    repeat' (first|(simp only [hd,pZ,pX,aWx,aWy,aWA,↓eA,aWK,aWL,aWI,cJ,↓wA,↓wC,wB,cL,cK,bJ,bK,bL,reduceIte,reduceCtorEq,aA,bM,eQ])|(refine cQ rfl ?_)|(refine cI hV (by simp [dB,dI,aWB]) rfl ?_)|(refine cI hC (by simp [dB,dI,aWB]) rfl ?_)|(refine cI hR rfl rfl ?_)|((first|apply cG|apply cH|apply cF)<;>intro h<;>try simp only [h]))
    exact fD _ rfl rfl
   ·have hd:decide (x.c=60)=false:=decide_eq_false hc
    obtain ⟨w,ws,hp⟩:=aGy 32 l
    rw [aLI hv hr hc hp]
    have hP:=aFZ l 32 (by omega)
    rw [hp] at hP
    refine cW aHu [[1,1,1,1,1,0,0],[1,1,1,1,1,0,0],[1,1,1,0],[1,1,1,0],[1,1,1,0]] ?_
    dsimp only [aHu,cT,c7]
    repeat' (first|(simp only [hd,pZ,pX,aWx,aWy,aWA,↓eA,aWK,aWL,aWI,cJ,↓wA,↓wC,wB,cL,cK,bJ,bK,bL,reduceIte,reduceCtorEq,aA,bM,eQ])|(refine cQ rfl ?_)|(refine cI hV (by simp [dB,dI,aWB]) rfl ?_)|(refine cI hC (by simp [dB,dI,aWB]) rfl ?_)|(refine cI hR rfl rfl ?_)|((first|apply cG|apply cH|apply cF)<;>intro h<;>try simp only [h]))
    refine eI _ (e8 3 none [0,1] (es:=4) (xs:=dl Cs.o x.o.cs) rfl rfl) fun v1=>?_
    simp only [dY,cX,cR,eF,cJ,↓wA,↓wC,wB,cL,cK,bJ,bK,bL,reduceIte,reduceCtorEq,aA,bM,eQ]
    refine eI _ (e8 3 none [0,4] (es:=1) (xs:=dl D.str x.o.led) rfl rfl) fun v2=>?_
    simp only [dY,cX,cR,eF,cJ,↓wA,↓wC,wB,cL,cK,bJ,bK,bL,reduceIte,reduceCtorEq,aA,bM,eQ]
    refine c8 (s':=⟨[(1,.d (.str l)),(4,.ptr 1 0 []),(6,.ptr 3 0 [])],[.box x.s,.box aPu,.dead,.box (oZ (oP x.o 5 7 v1 v2) (fE x.d x.p x.c)),.val (.sl true 4 (dl Cs.o x.o.cs)),.tag 4 v1,.val (.sl true 1 (dl D.str x.o.led)),.tag 6 v2]⟩) (cU _ rfl ⟨⟨rfl,rfl⟩,⟨rfl,rfl⟩,⟨rfl,rfl⟩,trivial⟩) ?_
    have hso:=mV hr
    have hws:∀ s∈w :: ws,s.length<=1000:=fun s hs=>by
     rw [<- hp] at hs
     have:=yG 32 l s hs
     omega
    have hwl:ws.length<=1000:=by
     have h1:=aDY 32 l
     rw [hp,aC] at h1
     omega
    have hoff:dP x.o=true:=by
     simp only [oG,aL] at hv
     exact hv.1
    have hA:=aH5 5 7 5 7 x.o v1 v2 w ws hoff hwl (fun s hs=>hws s (aP _ hs))
    have hg0:gU [0] (oZ (oP x.o 5 7 v1 v2) (fE x.d x.p x.c))=some (oP x.o 5 7 v1 v2):=rfl
    have hg1:fL [0] (oZ (oP x.o 5 7 v1 v2) (fE x.d x.p x.c))=0:=rfl
    rw [aSv]
    cases ha:rG x.o w ws with
    | none =>
     rw [ha] at hA
     simp only [aLx] at hA
     repeat' (first|(simp only [cJ,hg0,hg1,fK,gT,f9,eW,↓jD,↓wA,↓wC,wB,cL,cK,bJ,bK,bL,reduceIte,reduceCtorEq,aA,bM,eQ])|(refine cQ rfl ?_)|(refine dL ?_)|(with_reducible refine aF ?_ ?_)|(refine cI hP rfl rfl ?_)|(refine zF hA (by simp [dB,dI,kP,D.unown,vQ,eW]) ⟨⟨5,4,true,dl Cs.o x.o.cs,rfl,rfl,(rL _).symm⟩,⟨7,6,true,dl D.str x.o.led,rfl,rfl,(fA _).symm⟩,trivial⟩ (by simp [D.allOwn,aWQ,oP,dU]) ?_)|((first|apply cG|apply cH|apply cF)<;>intro h<;>try simp only [h]))
     all_goals
      refine c8 (gB 3 5 4 none [0,1] (v:=v1) (ow:=true) (es:=4) (xs:=dl Cs.o x.o.cs) (ob:=.box (oZ (oP x.o 5 7 v1 v2) (fE x.d x.p x.c))) (ob':=.box (oZ (dU x.o (.sl true 4 (dl Cs.o x.o.cs)) (.lnk 7 v2)) (fE x.d x.p x.c))) rfl rfl rfl rfl (by decide) rfl) ?_
      simp only [↓wA,↓wC,wB,cL,cK,bJ,bK,bL,reduceIte,reduceCtorEq,aA,bM,eQ]
      refine c8 (gB 3 7 6 none [0,4] (v:=v2) (ow:=true) (es:=1) (xs:=dl D.str x.o.led) (ob:=.box (oZ (dU x.o (.sl true 4 (dl Cs.o x.o.cs)) (.lnk 7 v2)) (fE x.d x.p x.c))) (ob':=.box x.o') rfl rfl rfl rfl (by decide) rfl) ?_
      simp only [Option.map_none,bF,exA]
      have hdl:decide ((200:Int) < ((1:Nat):Int))=false:=rfl
      rw [show aA4 qm=[63] from rfl]
      have hs1:gU [1] (x).o'=some (fE x.d x.p x.c):=rfl
      have hs2:fL [1] (x).o'=5:=rfl
      have hds:∀ a b c,kG [1] (x).o' (fE a b c)=(Con.mk (x).o a b c).o':=fun _ _ _=>rfl
      obtain ⟨nn,hap⟩:=sF x.d x.p x.c l [63]
      have hAp:=lW x.d x.p x.c l [63] h.2 hml (by rw [eD]; first|decide|omega)
      rw [hap] at hAp
      simp only [nD] at hAp
      repeat' (first|(simp only [cJ,hs1,hs2,hds,hdl,eF,jQ,iC,↓kF,aWK,aWL,aWI,↓wA,↓wC,wB,cL,cK,bJ,bK,bL,reduceIte,reduceCtorEq,aA,bM,eQ])|(refine cQ rfl ?_)|(refine cI hAp rfl rfl ?_)|((first|apply cG|apply cH|apply cF)<;>intro h<;>try simp only [h]))
      all_goals exact fD _ rfl (cQ rfl (cQ rfl (cQ rfl rfl)))
    | some y =>
     obtain ⟨yo,r⟩:=y
     cases yo with
     | none =>
      rw [ha] at hA
      simp only [aLx] at hA
      repeat' (first|(simp only [cJ,hg0,hg1,fK,gT,f9,eW,↓jD,↓wA,↓wC,wB,cL,cK,bJ,bK,bL,reduceIte,reduceCtorEq,aA,bM,eQ])|(refine cQ rfl ?_)|(refine dL ?_)|(with_reducible refine aF ?_ ?_)|(refine cI hP rfl rfl ?_)|(refine zF hA (by simp [dB,dI,kP,D.unown,vQ,eW]) ⟨⟨5,4,true,dl Cs.o x.o.cs,rfl,rfl,(rL _).symm⟩,⟨7,6,true,dl D.str x.o.led,rfl,rfl,(fA _).symm⟩,trivial⟩ (by simp [D.allOwn,aWQ,oP,dU]) ?_)|((first|apply cG|apply cH|apply cF)<;>intro h<;>try simp only [h]))
      all_goals
       refine c8 (gB 3 5 4 none [0,1] (v:=v1) (ow:=true) (es:=4) (xs:=dl Cs.o x.o.cs) (ob:=.box (oZ (oP x.o 5 7 v1 v2) (fE x.d x.p x.c))) (ob':=.box (oZ (dU x.o (.sl true 4 (dl Cs.o x.o.cs)) (.lnk 7 v2)) (fE x.d x.p x.c))) rfl rfl rfl rfl (by decide) rfl) ?_
       simp only [↓wA,↓wC,wB,cL,cK,bJ,bK,bL,reduceIte,reduceCtorEq,aA,bM,eQ]
       refine c8 (gB 3 7 6 none [0,4] (v:=v2) (ow:=true) (es:=1) (xs:=dl D.str x.o.led) (ob:=.box (oZ (dU x.o (.sl true 4 (dl Cs.o x.o.cs)) (.lnk 7 v2)) (fE x.d x.p x.c))) (ob':=.box x.o') rfl rfl rfl rfl (by decide) rfl) ?_
       simp only [aB,aI,bF,exA]
       by_cases hlong:200 < (r.length:Int)
       ·have hdl:decide (200 < (r.length:Int))=true:=decide_eq_true hlong
        rw [show aA4 r=[108,111,110,103] from if_pos hlong]
        have hs1:gU [1] (x).o'=some (fE x.d x.p x.c):=rfl
        have hs2:fL [1] (x).o'=5:=rfl
        have hds:∀ a b c,kG [1] (x).o' (fE a b c)=(Con.mk (x).o a b c).o':=fun _ _ _=>rfl
        obtain ⟨nn,hap⟩:=sF x.d x.p x.c l [108,111,110,103]
        have hAp:=lW x.d x.p x.c l [108,111,110,103] h.2 hml (by rw [eD]; first|decide|omega)
        rw [hap] at hAp
        simp only [nD] at hAp
        repeat' (first|(simp only [cJ,hs1,hs2,hds,hdl,eF,jQ,iC,↓kF,aWK,aWL,aWI,↓wA,↓wC,wB,cL,cK,bJ,bK,bL,reduceIte,reduceCtorEq,aA,bM,eQ])|(refine cQ rfl ?_)|(refine cI hAp rfl rfl ?_)|((first|apply cG|apply cH|apply cF)<;>intro h<;>try simp only [h]))
        all_goals exact fD _ rfl (cQ rfl (cQ rfl (cQ rfl rfl)))
       ·have hdl:decide (200 < (r.length:Int))=false:=decide_eq_false hlong
        rw [show aA4 r=r from if_neg hlong]
        have hs1:gU [1] (x).o'=some (fE x.d x.p x.c):=rfl
        have hs2:fL [1] (x).o'=5:=rfl
        have hds:∀ a b c,kG [1] (x).o' (fE a b c)=(Con.mk (x).o a b c).o':=fun _ _ _=>rfl
        obtain ⟨nn,hap⟩:=sF x.d x.p x.c l r
        have hAp:=lW x.d x.p x.c l r h.2 hml (by rw [eD]; first|decide|omega)
        rw [hap] at hAp
        simp only [nD] at hAp
        repeat' (first|(simp only [cJ,hs1,hs2,hds,hdl,eF,jQ,iC,↓kF,aWK,aWL,aWI,↓wA,↓wC,wB,cL,cK,bJ,bK,bL,reduceIte,reduceCtorEq,aA,bM,eQ])|(refine cQ rfl ?_)|(refine cI hAp rfl rfl ?_)|((first|apply cG|apply cH|apply cF)<;>intro h<;>try simp only [h]))
        all_goals exact fD _ rfl (cQ rfl (cQ rfl (cQ rfl rfl)))
     | some q =>
      rw [ha] at hA
      simp only [aLx] at hA
      repeat' (first|(simp only [cJ,aWP,aWO,aWM,hg0,hg1,fK,gT,f9,eW,↓jD,↓wA,↓wC,wB,cL,cK,bJ,bK,bL,reduceIte,reduceCtorEq,aA,bM,eQ])|(refine cQ rfl ?_)|(refine dL ?_)|(with_reducible refine aF ?_ ?_)|(refine cI hP rfl rfl ?_)|(refine zF hA (by simp [dB,dI,kP,D.unown,vQ,eW]) ⟨⟨5,4,true,dl Cs.o x.o.cs,rfl,rfl,(rL _).symm⟩,⟨7,6,true,dl D.str x.o.led,rfl,rfl,(fA _).symm⟩,trivial⟩ (by simp [D.allOwn,aWQ,oP,dU]) ?_)|((first|apply cG|apply cH|apply cF)<;>intro h<;>try simp only [h]))
      all_goals
       refine fD (.cons (.int .i64 q.day) (.cons (.sl true 4 (dl Cs.o q.cs)) (.cons (.int .i64 q.kept) (.cons (.int .i64 q.moved) (.cons (.sl true 1 (dl D.str q.led)) .nil))))) rfl (cQ rfl (cQ rfl ?_))
       rw [show kG [0] (oZ (oP x.o 5 7 v1 v2) (fE x.d x.p x.c)) (D.st (.cons (.int .i64 q.day) (.cons (.sl true 4 (dl Cs.o q.cs)) (.cons (.int .i64 q.kept) (.cons (.int .i64 q.moved) (.cons (.sl true 1 (dl D.str q.led)) .nil))))))=(Con.mk q x.d x.p x.c).o' from rfl]
       refine c8 (gO.refl _) ?_
       refine c8 (gO.refl _) ?_
       simp only [aB,aI,exA]
       by_cases hlong:200 < (r.length:Int)
       ·have hdl:decide (200 < (r.length:Int))=true:=decide_eq_true hlong
        rw [show aA4 r=[108,111,110,103] from if_pos hlong]
        have hs1:gU [1] (Con.mk q x.d x.p x.c).o'=some (fE x.d x.p x.c):=rfl
        have hs2:fL [1] (Con.mk q x.d x.p x.c).o'=5:=rfl
        have hds:∀ a b c,kG [1] (Con.mk q x.d x.p x.c).o' (fE a b c)=(Con.mk (Con.mk q x.d x.p x.c).o a b c).o':=fun _ _ _=>rfl
        obtain ⟨nn,hap⟩:=sF x.d x.p x.c l [108,111,110,103]
        have hAp:=lW x.d x.p x.c l [108,111,110,103] h.2 hml (by rw [eD]; first|decide|omega)
        rw [hap] at hAp
        simp only [nD] at hAp
        repeat' (first|(simp only [cJ,hs1,hs2,hds,hdl,eF,jQ,iC,↓kF,aWK,aWL,aWI,↓wA,↓wC,wB,cL,cK,bJ,bK,bL,reduceIte,reduceCtorEq,aA,bM,eQ])|(refine cQ rfl ?_)|(refine cI hAp rfl rfl ?_)|((first|apply cG|apply cH|apply cF)<;>intro h<;>try simp only [h]))
        all_goals exact fD _ rfl (cQ rfl (cQ rfl (cQ rfl rfl)))
       ·have hdl:decide (200 < (r.length:Int))=false:=decide_eq_false hlong
        rw [show aA4 r=r from if_neg hlong]
        have hs1:gU [1] (Con.mk q x.d x.p x.c).o'=some (fE x.d x.p x.c):=rfl
        have hs2:fL [1] (Con.mk q x.d x.p x.c).o'=5:=rfl
        have hds:∀ a b c,kG [1] (Con.mk q x.d x.p x.c).o' (fE a b c)=(Con.mk (Con.mk q x.d x.p x.c).o a b c).o':=fun _ _ _=>rfl
        obtain ⟨nn,hap⟩:=sF x.d x.p x.c l r
        have hAp:=lW x.d x.p x.c l r h.2 hml (by rw [eD]; first|decide|omega)
        rw [hap] at hAp
        simp only [nD] at hAp
        repeat' (first|(simp only [cJ,hs1,hs2,hds,hdl,eF,jQ,iC,↓kF,aWK,aWL,aWI,↓wA,↓wC,wB,cL,cK,bJ,bK,bL,reduceIte,reduceCtorEq,aA,bM,eQ])|(refine cQ rfl ?_)|(refine cI hAp rfl rfl ?_)|((first|apply cG|apply cH|apply cF)<;>intro h<;>try simp only [h]))
        all_goals exact fD _ rfl (cQ rfl (cQ rfl (cQ rfl rfl)))
theorem aIy (o:Off) (ho:o.ok0):Fn prog 52 [o.s] (fun rs=>rs=[o.s]):=by
 simpa [aWN] using fX (kD o ho)
theorem aEa (x:Con) (h:x.ok0):Fn prog 28 [x.s] (fun rs=>rs=[x.s]):=by
 have hC:=aIy x.o h.1
 refine cW aVC [[1,0]] ?_
 dsimp only [aVC,cT,c7]
 repeat' (first|(simp only [aWx,aWy,cJ,↓wA,↓wC,wB,cL,cK,bJ,bK,bL,reduceIte,reduceCtorEq,aA,bM,eQ])|((first|apply cG|apply cH|apply cF)<;>intro h<;>try simp only [h]))
 refine c8 (gI 0 rfl) ?_
 simp only [cL,cK,aWB,↓wA,↓wC,wB,cL,cK,bJ,bK,bL,reduceIte,reduceCtorEq,aA,bM,eQ]
 repeat' (first|(simp only [fT,x6,oW,lA,qU,lC,eF,jQ,iC,↓dF,↓kF,aWx,aWy,aWv,aWw,aWz,cJ,↓wA,↓wC,wB,cL,cK,bJ,bK,bL,reduceIte,reduceCtorEq,aA,bM,eQ])|(refine cQ rfl ?_)|(refine dL ?_)|(with_reducible refine aF ?_ ?_)|(refine cI hC (by simp [dB,dI,aWu]) rfl ?_)|((first|apply cG|apply cH|apply cF)<;>intro h<;>try simp only [h]))
 all_goals rfl
theorem sV {x:Off} {K:SV->Prop}:dG 2 2 (.d (.ptr x.s)) K=K (.d (.ptr (.int .i64 x.kept))):=by simp [Off.s,dU,dG,D.pre,D.nth,D.size]
theorem sM {x:Off} {K:SV->Prop}:dG 3 3 (.d (.ptr x.s)) K=K (.d (.ptr (.int .i64 x.moved))):=by simp [Off.s,dU,dG,D.pre,D.nth,D.size]
theorem tF {x:Off} {K:SV->Prop}:dG 4 4 (.d (.ptr x.s)) K=K (.d (.ptr (.sl false 1 (dl D.str x.led)))):=by simp [Off.s,dU,dG,D.pre,D.nth,D.size]
theorem aIX (o:Off) (l:List UInt8) (ho:dP o=true):Fn prog 57 [o.s,.str l] (fun rs=>rs=[.str (lP o l)]):=by
 have hp:=eM ho
 have hk:∀ {v:List UInt8},l=v->lP o l=lP o v:=fun e=>congrArg (lP o) e
 by_cases h6:l=uV
 ·have hI:=wI l 6 (by subst h6; rfl)
  have hD:=fR o.day (by omega) (by simp only [dW]; omega)
  rw [hk h6,aRW]
  refine cW aA9 [] ?_
  dsimp only [aA9,cT,c7]
  repeat' (first|(simp only [hI,cJ,gW,gX,aWv,aWw,↓wA,↓wC,wB,cL,cK,bJ,bK,bL,reduceIte,reduceCtorEq,aA,bM,eQ])|(refine cI (hD) rfl rfl ?_)|(refine cM (hD) rfl rfl ?_)|((first|apply cG|apply cH|apply cF)<;>intro h<;>try simp only [h]))
 by_cases h7:l=uA
 ·have hI:=wI l 7 (by subst h7; rfl)
  have hH:=aGo o ho
  have hL:=p7 _ true (aCS (rE o) ho)
  rw [hk h7,aR3,show aAX (rE o) o=some _ from if_pos ho]
  refine cW aA9 [] ?_
  dsimp only [aA9,cT,c7]
  repeat' (first|(simp only [hI,cJ,aWv,aWw,↓dF,cY,↓wA,↓wC,wB,cL,cK,bJ,bK,bL,reduceIte,reduceCtorEq,aA,bM,eQ])|(refine cI hH (by simp [dB,dI,aWu]) rfl ?_)|(refine cI hL (by simp [dB,dI,D.unown,dM]) rfl ?_)|((first|apply cG|apply cH|apply cF)<;>intro h<;>try simp only [h]))
  all_goals rfl
 by_cases h8:l=gN
 ·have hI:=wI l 8 (by subst h8; rfl)
  have hH:=aHm o ho
  have hL:=p7 _ true (aCS (rD o) ho)
  rw [hk h8,aDZ,show aAX (rD o) o=some _ from if_pos ho]
  refine cW aA9 [] ?_
  dsimp only [aA9,cT,c7]
  repeat' (first|(simp only [hI,cJ,aWv,aWw,↓dF,cY,↓wA,↓wC,wB,cL,cK,bJ,bK,bL,reduceIte,reduceCtorEq,aA,bM,eQ])|(refine cI hH (by simp [dB,dI,aWu]) rfl ?_)|(refine cI hL (by simp [dB,dI,D.unown,dM]) rfl ?_)|((first|apply cG|apply cH|apply cF)<;>intro h<;>try simp only [h]))
  all_goals rfl
 by_cases h9:l=oH
 ·have hI:=wI l 9 (by subst h9; rfl)
  have hH:=aFE o (fB ho)
  rw [aGg ho] at hH
  have hv:gM (yU o):=aHw
  have hD:=fR (yU o) hv.1 (lS hv)
  rw [hk h9,aMv,aFK ho]
  cases hl:eN o.led with
  | true =>
   rw [hl] at hH
   refine cW aA9 [] ?_
   dsimp only [aA9,cT,c7]
   repeat' (first|(simp only [hI,cJ,aWv,aWw,↓dF,↓wA,↓wC,wB,cL,cK,bJ,bK,bL,reduceIte,reduceCtorEq,aA,bM,eQ])|(refine cI (hD) rfl rfl ?_)|(refine cM (hD) rfl rfl ?_)|(refine cI hH (by simp [dB,dI,aWu]) rfl ?_)|((first|apply cG|apply cH|apply cF)<;>intro h<;>try simp only [h]))
   all_goals rfl
  | false =>
   rw [hl] at hH
   refine cW aA9 [] ?_
   dsimp only [aA9,cT,c7]
   repeat' (first|(simp only [hI,cJ,aWv,aWw,↓dF,↓wA,↓wC,wB,cL,cK,bJ,bK,bL,reduceIte,reduceCtorEq,aA,bM,eQ])|(refine cI (hD) rfl rfl ?_)|(refine cM (hD) rfl rfl ?_)|(refine cI hH (by simp [dB,dI,aWu]) rfl ?_)|((first|apply cG|apply cH|apply cF)<;>intro h<;>try simp only [h]))
   all_goals rfl
 ·have e:lP o l=qm:=by unfold lP; rw [if_neg h6,if_neg h7,if_neg h8,if_neg h9]
  have d6:decide (l=uV)=false:=decide_eq_false h6
  have d7:decide (l=uA)=false:=decide_eq_false h7
  have d8:decide (l=gN)=false:=decide_eq_false h8
  have d9:decide (l=oH)=false:=decide_eq_false h9
  rw [e]
  refine cW aA9 [] ?_
  dsimp only [aA9,cT,c7]
  repeat' (first|(simp only [d6,d7,d8,d9,cJ,aWv,aWw,↓wA,↓wC,wB,cL,cK,bJ,bK,bL,reduceIte,reduceCtorEq,aA,bM,eQ])|((first|apply cG|apply cH|apply cF)<;>intro h<;>try simp only [h]))
  all_goals rfl
def mkC (x:Con) (p:Off×List UInt8):List D:=[(Con.mk p.1 x.d x.p x.c).s,.str p.2]
theorem nI (x:Con) (s:Stp) (hv:dP x.o=true):Fn prog 60 [x.s,s.d] (fun rs=>rs=mkC x (oR x.o s)):=by
 have hT:=aEP x.o s.k s.i s.a s.v (fB hv)
 have hsd:s.d=j7 s.k s.i s.a s.v:=rfl
 rw [<- hsd] at hT
 have hsn:s.d.noOwn=true:=rfl
 have hsv:s.d.isV=true:=rfl
 have hsu:s.d.unown=s.d:=rfl
 have hrs:∀ (ob:List Ob) (K:SV->Prop),eU ob (some 4) s.d K=K (.d s.d):=fun ob K=>by rw [hsd]; simp [j7,eU,D.size,D.noOwn]
 have hf0:∀ K:SV->Prop,dG 0 0 (.d (.ptr s.d)) K=K (.d (.ptr (.int .i64 s.k))):=fun K=>by rw [hsd]; simp [j7,dG,D.pre,D.nth,D.size]
 have hf1:∀ K:SV->Prop,dG 1 1 (.d (.ptr s.d)) K=K (.d (.ptr (.int .i64 s.i))):=fun K=>by rw [hsd]; simp [j7,dG,D.pre,D.nth,D.size]
 have hf2:∀ K:SV->Prop,dG 2 2 (.d (.ptr s.d)) K=K (.d (.ptr (.int .i64 s.a))):=fun K=>by rw [hsd]; simp [j7,dG,D.pre,D.nth,D.size]
 have hf3:∀ K:SV->Prop,dG 3 3 (.d (.ptr s.d)) K=K (.d (.ptr (.int .i64 s.v))):=fun K=>by rw [hsd]; simp [j7,dG,D.pre,D.nth,D.size]
 unfold oR
 cases hq:gZ x.o s.k s.i s.a s.v with
 | none =>
  have e1:uZ x.o s.k s.i s.a s.v=aDt:=by unfold uZ; rw [hq]; rfl
  have e2:u0 x.o s.k s.i s.a s.v=false:=by unfold u0; rw [hq]; rfl
  rw [e1,e2] at hT
  refine cW aPH [[1,0]] ?_
  dsimp only [aPH,cT,c7]
  repeat' (first|(simp only [aWx,aWy,cJ,hsn,hsv,↓wA,↓wC,wB,cL,cK,bJ,bK,bL,reduceIte,reduceCtorEq,aA,bM,eQ])|((first|apply cG|apply cH|apply cF)<;>intro h<;>try simp only [h]))
  refine c8 ((gI 0 rfl).trans (gI 1 rfl)) ?_
  simp only [cL,cK,aWB,hsu,↓wA,↓wC,wB,cL,cK,bJ,bK,bL,reduceIte,reduceCtorEq,aA,bM,eQ]
  repeat' (first|(simp only [fT,x6,oX,sV,sM,tF,hf0,hf1,hf2,hf3,aWx,aWy,aWA,aWv,aWw,aWz,cR,cO,↓eA,↓dF,cJ,hrs,↓wA,↓wC,wB,cL,cK,bJ,bK,bL,reduceIte,reduceCtorEq,aA,bM,eQ])|(refine cQ rfl ?_)|(refine cI hT (by simp [dB,dI,aWu,hsu]) rfl ?_)|((first|apply cG|apply cH|apply cF)<;>intro h<;>try simp only [h]))
  all_goals exact fD _ rfl rfl
 | some q =>
  have hqo:=yI hq
  have e1:uZ x.o s.k s.i s.a s.v=q:=by unfold uZ; rw [hq]; rfl
  have e2:u0 x.o s.k s.i s.a s.v=true:=by unfold u0; rw [hq]; rfl
  rw [e1,e2] at hT
  have hds:kG [0] x.s q.s=(Con.mk q x.d x.p x.c).s:=rfl
  refine cW aPH [[1,1,1,1,1,0,0],[1,1,1,0],[1,0]] ?_
  dsimp only [aPH,cT,c7]
  repeat' (first|(simp only [aWx,aWy,cJ,hsn,hsv,↓wA,↓wC,wB,cL,cK,bJ,bK,bL,reduceIte,reduceCtorEq,aA,bM,eQ])|((first|apply cG|apply cH|apply cF)<;>intro h<;>try simp only [h]))
  refine c8 ((gI 0 rfl).trans (gI 1 rfl)) ?_
  simp only [cL,cK,aWB,hsu,↓wA,↓wC,wB,cL,cK,bJ,bK,bL,reduceIte,reduceCtorEq,aA,bM,eQ]
  repeat' (first|(simp only [fT,x6,oX,sV,sM,tF,hf0,hf1,hf2,hf3,aWx,aWy,aWA,aWv,aWw,aWz,cR,cO,↓eA,↓dF,cJ,hrs,↓wA,↓wC,wB,cL,cK,bJ,bK,bL,reduceIte,reduceCtorEq,aA,bM,eQ])|(refine cQ rfl ?_)|(refine cI hT (by simp [dB,dI,aWu,hsu]) rfl ?_)|((first|apply cG|apply cH|apply cF)<;>intro h<;>try simp only [h]))
  refine c8 (gI 3 rfl) ?_
  simp only [cL,cK,aWu,↓wA,↓wC,wB,cL,cK,bJ,bK,bL,reduceIte,reduceCtorEq,aA,bM,eQ]
  repeat' (first|(simp only [hds,oW,fT,x6,oX,sV,sM,tF,hf0,hf1,hf2,hf3,aWx,aWy,aWA,aWv,aWw,aWz,cR,cO,↓eA,↓dF,cJ,hrs,↓wA,↓wC,wB,cL,cK,bJ,bK,bL,reduceIte,reduceCtorEq,aA,bM,eQ])|(refine cQ rfl ?_)|(refine cI hT (by simp [dB,dI,aWu,hsu]) rfl ?_)|((first|apply cG|apply cH|apply cF)<;>intro h<;>try simp only [h]))
  refine fD _ rfl (cQ rfl ?_)
  refine c8 (gI 4 rfl) ?_
  simp only [cL,cK,aWB,↓wA,↓wC,wB,cL,cK,bJ,bK,bL,reduceIte,reduceCtorEq,aA,bM,eQ]
  by_cases k1:s.k=1
  ·have d1:decide (s.k=1)=true:=decide_eq_true k1
   have hp:=eM hqo
   have hD:=fR q.day (by omega) (by simp only [dW]; omega)
   rw [if_pos k1]
   repeat' (first|(simp only [d1,oX,sV,sM,tF,hf0,hf1,hf2,hf3,fT,aWx,aWy,aWA,aWv,aWw,aWz,cR,cY,cO,↓eA,↓dF,cJ,↓wA,↓wC,wB,cL,cK,bJ,bK,bL,reduceIte,reduceCtorEq,aA,bM,eQ])|(refine cQ rfl ?_)|(refine dL ?_)|(with_reducible refine aF ?_ ?_)|(refine cI (hD) rfl rfl ?_)|(refine cM (hD) rfl rfl ?_)|((first|apply cG|apply cH|apply cF)<;>intro h<;>try simp only [h]))
   all_goals exact fD _ rfl rfl
  have d1:decide (s.k=1)=false:=decide_eq_false k1
  rw [if_neg k1]
  by_cases k4:s.k=4
  ·have d4:decide (s.k=4)=true:=decide_eq_true k4
   have hH:=x7 x.o s.v hv
   have hL:=p7 _ (dC s.v 1 9) (aBh s.v hv)
   rw [if_pos k4,aBr s.v hv]
   repeat' (first|(simp only [d1,d4,oX,sV,sM,tF,hf0,hf1,hf2,hf3,fT,aWx,aWy,aWA,aWv,aWw,aWz,cR,cY,cO,↓eA,↓dF,cJ,↓wA,↓wC,wB,cL,cK,bJ,bK,bL,reduceIte,reduceCtorEq,aA,bM,eQ])|(refine cQ rfl ?_)|(refine dL ?_)|(with_reducible refine aF ?_ ?_)|(refine cI hH (by simp [dB,dI,aWu]) rfl ?_)|(refine cI hL (by simp [dB,dI,D.unown,dM]) rfl ?_)|((first|apply cG|apply cH|apply cF)<;>intro h<;>try simp only [h]))
   all_goals (refine fD _ rfl ?_; cases dC s.v 1 9<;>rfl)
  have d4:decide (s.k=4)=false:=decide_eq_false k4
  rw [if_neg k4]
  by_cases k6:s.k=6
  ·have d6:decide (s.k=6)=true:=decide_eq_true k6
   have hL:=p7 _ true (aL4 hqo)
   rw [if_pos k6]
   repeat' (first|(simp only [d1,d4,d6,oX,sV,sM,tF,hf0,hf1,hf2,hf3,fT,aWx,aWy,aWA,aWv,aWw,aWz,cR,cY,cO,↓eA,↓dF,cJ,↓wA,↓wC,wB,cL,cK,bJ,bK,bL,reduceIte,reduceCtorEq,aA,bM,eQ])|(refine cQ rfl ?_)|(refine dL ?_)|(with_reducible refine aF ?_ ?_)|(refine cI hL rfl rfl ?_)|((first|apply cG|apply cH|apply cF)<;>intro h<;>try simp only [h]))
   all_goals exact fD _ rfl rfl
  have d6:decide (s.k=6)=false:=decide_eq_false k6
  rw [if_neg k6]
  have hC:=aBT q s.i (fB hqo)
  repeat' (first|(simp only [d1,d4,d6,oX,sV,sM,tF,hf0,hf1,hf2,hf3,fT,aWx,aWy,aWA,aWv,aWw,aWz,cR,cY,cO,↓eA,↓dF,cJ,↓wA,↓wC,wB,cL,cK,bJ,bK,bL,reduceIte,reduceCtorEq,aA,bM,eQ])|(refine cQ rfl ?_)|(refine dL ?_)|(with_reducible refine aF ?_ ?_)|(refine cI hC (by simp [dB,dI,aWu]) rfl ?_)|((first|apply cG|apply cH|apply cF)<;>intro h<;>try simp only [h]))
  all_goals exact fD _ rfl rfl
theorem aLp (x:Con) (w:List UInt8) (n:Int) (hv:dP x.o=true):Fn prog 58 [x.s,.str w,.int .i64 n] (fun rs=>rs=mkC x (pO x.o w n)):=by
 by_cases h0:w=nG
 ·have hI:=wI w 0 (by subst h0; rfl)
  have hM:=nI x ⟨1,0,0,n⟩ hv
  rw [show Stp.d ⟨1,0,0,n⟩=j7 1 0 0 n from rfl] at hM
  simp only [mkC,j7] at hM
  rw [(congrArg (pO x.o · n) h0).trans (aSp x.o n)]
  refine cW aA1 [] ?_
  dsimp only [aA1,cT,c7]
  repeat' (first|(simp only [fT,hI,aWx,aWy,aWA,aWv,aWw,aWz,cY,↓eA,↓dF,cJ,↓wA,↓wC,wB,cL,cK,bJ,bK,bL,reduceIte,reduceCtorEq,aA,bM,eQ])|(refine cQ rfl ?_)|(refine dL ?_)|(with_reducible refine aF ?_ ?_)|(refine cI hM (by simp [dB,dI,aWB]) rfl ?_)|((first|apply cG|apply cH|apply cF)<;>intro h<;>try simp only [h]))
  all_goals exact fD _ rfl rfl
 by_cases h3:w=gF
 ·have hI:=wI w 3 (by subst h3; rfl)
  have hM:=nI x ⟨4,0,0,n⟩ hv
  rw [show Stp.d ⟨4,0,0,n⟩=j7 4 0 0 n from rfl] at hM
  simp only [mkC,j7] at hM
  rw [(congrArg (pO x.o · n) h3).trans (aLj x.o n)]
  refine cW aA1 [] ?_
  dsimp only [aA1,cT,c7]
  repeat' (first|(simp only [fT,hI,aWx,aWy,aWA,aWv,aWw,aWz,cY,↓eA,↓dF,cJ,↓wA,↓wC,wB,cL,cK,bJ,bK,bL,reduceIte,reduceCtorEq,aA,bM,eQ])|(refine cQ rfl ?_)|(refine dL ?_)|(with_reducible refine aF ?_ ?_)|(refine cI hM (by simp [dB,dI,aWB]) rfl ?_)|((first|apply cG|apply cH|apply cF)<;>intro h<;>try simp only [h]))
  all_goals exact fD _ rfl rfl
 by_cases h5:w=tW
 ·have hI:=wI w 5 (by subst h5; rfl)
  have hM:=nI x ⟨6,n,0,0⟩ hv
  rw [show Stp.d ⟨6,n,0,0⟩=j7 6 n 0 0 from rfl] at hM
  simp only [mkC,j7] at hM
  rw [(congrArg (pO x.o · n) h5).trans (aVI x.o n)]
  refine cW aA1 [] ?_
  dsimp only [aA1,cT,c7]
  repeat' (first|(simp only [fT,hI,aWx,aWy,aWA,aWv,aWw,aWz,cY,↓eA,↓dF,cJ,↓wA,↓wC,wB,cL,cK,bJ,bK,bL,reduceIte,reduceCtorEq,aA,bM,eQ])|(refine cQ rfl ?_)|(refine dL ?_)|(with_reducible refine aF ?_ ?_)|(refine cI hM (by simp [dB,dI,aWB]) rfl ?_)|((first|apply cG|apply cH|apply cF)<;>intro h<;>try simp only [h]))
  all_goals exact fD _ rfl rfl
 by_cases lB:w=n7
 ·have hI:=wI w 10 (by subst lB; rfl)
  have hH:=x7 x.o n hv
  have hL:=p7 _ (dC n 1 9) (aBh n hv)
  rw [(congrArg (pO x.o · n) lB).trans (aMg x.o n),aBr n hv]
  refine cW aA1 [[1,0,0]] ?_
  dsimp only [aA1,cT,c7]
  repeat' (first|(simp only [aWx,aWy,cJ,↓wA,↓wC,wB,cL,cK,bJ,bK,bL,reduceIte,reduceCtorEq,aA,bM,eQ])|((first|apply cG|apply cH|apply cF)<;>intro h<;>try simp only [h]))
  refine c8 (gI 0 rfl) ?_
  simp only [cL,cK,aWB,↓wA,↓wC,wB,cL,cK,bJ,bK,bL,reduceIte,reduceCtorEq,aA,bM,eQ]
  repeat' (first|(simp only [fT,hI,aWx,aWy,aWA,aWv,aWw,aWz,cY,↓eA,↓dF,cJ,↓wA,↓wC,wB,cL,cK,bJ,bK,bL,reduceIte,reduceCtorEq,aA,bM,eQ])|(refine cQ rfl ?_)|(refine dL ?_)|(with_reducible refine aF ?_ ?_)|(refine cI hH (by simp [dB,dI,aWu]) rfl ?_)|(refine cI hL (by simp [dB,dI,D.unown,dM]) rfl ?_)|((first|apply cG|apply cH|apply cF)<;>intro h<;>try simp only [h]))
  all_goals (refine fD _ rfl ?_; cases dC n 1 9<;>rfl)
 by_cases h11:w=oS
 ·have hI:=wI w 11 (by subst h11; rfl)
  have hC:=aBT x.o n (fB hv)
  rw [(congrArg (pO x.o · n) h11).trans (aNd x.o n)]
  refine cW aA1 [[1,0,0]] ?_
  dsimp only [aA1,cT,c7]
  repeat' (first|(simp only [aWx,aWy,cJ,↓wA,↓wC,wB,cL,cK,bJ,bK,bL,reduceIte,reduceCtorEq,aA,bM,eQ])|((first|apply cG|apply cH|apply cF)<;>intro h<;>try simp only [h]))
  refine c8 (gI 0 rfl) ?_
  simp only [cL,cK,aWB,↓wA,↓wC,wB,cL,cK,bJ,bK,bL,reduceIte,reduceCtorEq,aA,bM,eQ]
  repeat' (first|(simp only [fT,hI,aWx,aWy,aWA,aWv,aWw,aWz,cY,↓eA,↓dF,cJ,↓wA,↓wC,wB,cL,cK,bJ,bK,bL,reduceIte,reduceCtorEq,aA,bM,eQ])|(refine cQ rfl ?_)|(refine dL ?_)|(with_reducible refine aF ?_ ?_)|(refine cI hC (by simp [dB,dI,aWu]) rfl ?_)|((first|apply cG|apply cH|apply cF)<;>intro h<;>try simp only [h]))
  all_goals exact fD _ rfl rfl
 ·have e:pO x.o w n=(x.o,qm):=by unfold pO; rw [if_neg h0,if_neg h3,if_neg h5,if_neg lB,if_neg h11]
  have hI:decide (w=nG)=false/\decide (w=gF)=false/\decide (w=tW)=false/\decide (w=n7)=false/\decide (w=oS)=false:=⟨decide_eq_false h0,decide_eq_false h3,decide_eq_false h5,decide_eq_false lB,decide_eq_false h11⟩
  rw [e]
  refine cW aA1 [] ?_
  dsimp only [aA1,cT,c7]
  repeat' (first|(simp only [fT,hI,aWx,aWy,aWA,aWv,aWw,aWz,cY,↓eA,↓dF,cJ,↓wA,↓wC,wB,cL,cK,bJ,bK,bL,reduceIte,reduceCtorEq,aA,bM,eQ])|(refine cQ rfl ?_)|(refine dL ?_)|(with_reducible refine aF ?_ ?_)|((first|apply cG|apply cH|apply cF)<;>intro h<;>try simp only [h]))
  all_goals exact fD _ rfl rfl
theorem aKL (x:Con) (w:List UInt8) (n v:Int) (hv:dP x.o=true):Fn prog 59 [x.s,.str w,.int .i64 n,.int .i64 v] (fun rs=>rs=mkC x (rN x.o w n v)):=by
 by_cases h2:w=oM
 ·have hI:=wI w 2 (by subst h2; rfl)
  have hM:=nI x ⟨3,n,0,v⟩ hv
  rw [show Stp.d ⟨3,n,0,v⟩=j7 3 n 0 v from rfl] at hM
  simp only [mkC,j7] at hM
  rw [(congrArg (rN x.o · n v) h2).trans (aS6 x.o n v)]
  refine cW aKF [] ?_
  dsimp only [aKF,cT,c7]
  repeat' (first|(simp only [fT,hI,aWx,aWy,aWA,aWv,aWw,aWz,cY,↓eA,↓dF,cJ,↓wA,↓wC,wB,cL,cK,bJ,bK,bL,reduceIte,reduceCtorEq,aA,bM,eQ])|(refine cQ rfl ?_)|(refine dL ?_)|(with_reducible refine aF ?_ ?_)|(refine cI hM (by simp [dB,dI,aWB]) rfl ?_)|((first|apply cG|apply cH|apply cF)<;>intro h<;>try simp only [h]))
  all_goals exact fD _ rfl rfl
 by_cases h4:w=kW
 ·have hI:=wI w 4 (by subst h4; rfl)
  have hM:=nI x ⟨5,n,0,v⟩ hv
  rw [show Stp.d ⟨5,n,0,v⟩=j7 5 n 0 v from rfl] at hM
  simp only [mkC,j7] at hM
  rw [(congrArg (rN x.o · n v) h4).trans (aO4 x.o n v)]
  refine cW aKF [] ?_
  dsimp only [aKF,cT,c7]
  repeat' (first|(simp only [fT,hI,aWx,aWy,aWA,aWv,aWw,aWz,cY,↓eA,↓dF,cJ,↓wA,↓wC,wB,cL,cK,bJ,bK,bL,reduceIte,reduceCtorEq,aA,bM,eQ])|(refine cQ rfl ?_)|(refine dL ?_)|(with_reducible refine aF ?_ ?_)|(refine cI hM (by simp [dB,dI,aWB]) rfl ?_)|((first|apply cG|apply cH|apply cF)<;>intro h<;>try simp only [h]))
  all_goals exact fD _ rfl rfl
 ·have e:rN x.o w n v=(x.o,qm):=by unfold rN; rw [if_neg h2,if_neg h4]
  have hI:decide (w=oM)=false/\decide (w=kW)=false:=⟨decide_eq_false h2,decide_eq_false h4⟩
  rw [e]
  refine cW aKF [] ?_
  dsimp only [aKF,cT,c7]
  repeat' (first|(simp only [fT,hI,aWx,aWy,aWA,aWv,aWw,aWz,cY,↓eA,↓dF,cJ,↓wA,↓wC,wB,cL,cK,bJ,bK,bL,reduceIte,reduceCtorEq,aA,bM,eQ])|(refine cQ rfl ?_)|(refine dL ?_)|(with_reducible refine aF ?_ ?_)|((first|apply cG|apply cH|apply cF)<;>intro h<;>try simp only [h]))
  all_goals exact fD _ rfl rfl
theorem aLt (x:Con) (l w:List UInt8) (ws:List (List UInt8)) (hv:dP x.o=true) (hl:l.length<=1000) (hp:parts 32 l=w :: ws):Fn prog 31 [x.s,.str l] (fun rs=>rs=mkC x (oU x.o w ws)):=by
 have hS:=qC l 32 (by omega)
 rw [hp] at hS
 have hS:Fn prog 44 [.str l,.int .u8 32] (fun rs=>rs=[.sl true 1 (dl D.str (w :: ws))]):=hS
 have hws:∀ s∈w :: ws,s.length<=1000:=fun s hs=>by
  rw [<- hp] at hs
  have:=yG 32 l s hs
  omega
 have hwl:ws.length<=1000:=by
  have h1:=aDY 32 l
  rw [hp,aC] at h1
  omega
 have hw0:(w :: ws)[0]?=some w:=rfl
 refine cW aTQ [[1,1,1,1,0,0],[1,1,1,0,0]] ?_
 dsimp only [aTQ,cT,c7]
 repeat' (first|(simp only [aWx,aWy,cJ,aLa,↓wA,↓wC,wB,cL,cK,bJ,bK,bL,reduceIte,reduceCtorEq,aA,bM,eQ])|(refine cQ rfl ?_)|(refine cI hS rfl rfl ?_)|((first|apply cG|apply cH|apply cF)<;>intro h<;>try simp only [h]))
 refine c8 (s':=⟨[(1,.d (.str l)),(2,.d (.ptr x.s)),(4,.ptr 1 0 []),(6,.d (.sl false 1 (dl D.str (w :: ws)))),(7,.own 3)],[.dead,.box aPu,.dead,.val (.sl true 1 (dl iD []))]⟩) ((aCb 0 rfl (aWB x)).trans ((aH6 2 rfl).trans (cU _ rfl ⟨⟨rfl,rfl⟩,⟨rfl,rfl⟩,⟨rfl,rfl⟩,⟨by simp only [w8,tU,D.unown,vQ,↓wA,↓wC,wB,cL,cK,bJ,bK,bL,reduceIte,reduceCtorEq,aA,bM,eQ],rfl⟩,⟨rfl,rfl⟩,trivial⟩))) ?_
 repeat' (first|(simp only [cJ,↓wA,↓wC,wB,cL,cK,bJ,bK,bL,reduceIte,reduceCtorEq,aA,bM,eQ])|((first|apply cG|apply cH|apply cF)<;>intro h<;>try simp only [h]))
 refine d5 (fun j:Nat=>⟨[(1,.d (.str l)),(2,.d (.ptr x.s)),(4,.ptr 1 0 []),(6,.d (.sl false 1 (dl D.str (w :: ws)))),(7,.own 3),(8,.d (.int .i64 ((j:Int) + 1)))],[.dead,.box aPu,.dead,.val (.sl true 1 (dl iD (qG ws j)))]⟩) (fun j=>j<=ws.length/\o5 (ws.take j)=some (qG ws j)) (fun j=>ws.length - j) 0 (cU _ rfl ⟨⟨rfl,rfl⟩,⟨rfl,rfl⟩,⟨rfl,rfl⟩,⟨rfl,rfl⟩,⟨rfl,rfl⟩,⟨rfl,rfl⟩,trivial⟩) ⟨Nat.zero_le _,rfl⟩ ?_
 rintro j ⟨hj,hin⟩
 by_cases hlt:j < ws.length
 ·have hd:decide ((j:Int) + 1 < ((ws.length + 1:Nat):Int))=true:=decide_eq_true (by omega)
  obtain ⟨s,hr⟩:=dQ hlt
  have hr':(w :: ws)[j + 1]?=some s:=hr
  have hjn:((j:Int) + 1).toNat=j + 1:=by omega
  have hP:=aAZ s (by have:=hws s (aP _ (aH hr)); omega)
  have hlen:=uF hin
  rw [aM,aZ (by omega)] at hlen
  unfold rdR at hP
  cases hn:kM s with
  | none =>
   rw [hn] at hP
   have hg:oU x.o w ws=(x.o,qm):=by unfold oU; rw [aAz hn ws (aH hr)]
   rw [hg]
   repeat' (first|(simp only [hd,hr',hjn,aB,cJ,cO,c6,aC,aWx,aWy,aWA,↓eA,↓wA,↓wC,wB,cL,cK,bJ,bK,bL,reduceIte,reduceCtorEq,aA,bM,eQ])|(refine cI (hP) rfl rfl ?_)|(refine cM (hP) rfl rfl ?_)|(with_reducible refine cQ ?_ ?_; focus omega)|(refine cQ rfl ?_)|((first|apply cG|apply cH|apply cF)<;>intro h<;>try simp only [h]))
   all_goals exact fD _ rfl rfl
  | some n =>
   rw [hn] at hP
   have hu:o5 (ws.take (j + 1))=some (qG ws j ++ [n]):=by rw [e7 hr,aAp,hin,hn]; rfl
   have hu2:qG ws (j + 1)=qG ws j ++ [n]:=by unfold qG at hu ⊢; rw [hu]; rfl
   repeat' (first|(simp only [hd,hr',hjn,aB,cJ,cO,c6,aC,↓wA,↓wC,wB,cL,cK,bJ,bK,bL,reduceIte,reduceCtorEq,aA,bM,eQ])|(refine cI (hP) rfl rfl ?_)|(refine cM (hP) rfl rfl ?_)|(refine cQ (fun e=>by cases e) ?_)|(with_reducible refine cQ ?_ ?_; focus omega)|(with_reducible refine cP ?_ ?_; focus (simp only [dW]; omega))|((first|apply cG|apply cH|apply cF)<;>intro h<;>try simp only [h]))
   refine ⟨j + 1,?_,⟨by omega,by rw [hu2]; exact hu⟩,by omega⟩
   rw [hu2,<-iM (f:=iD)]
   exact (cU _ rfl ⟨⟨rfl,rfl⟩,⟨rfl,rfl⟩,⟨rfl,rfl⟩,⟨rfl,rfl⟩,⟨rfl,rfl⟩,⟨rfl,rfl⟩,trivial⟩)
 ·have hd:decide ((j:Int) + 1 < ((ws.length + 1:Nat):Int))=false:=decide_eq_false (by omega)
  have hjl:j=ws.length:=by omega
  subst hjl
  rw [bE] at hin
  have hbd:=aEL hin
  have hlen:=uF hin
  generalize qG ws ws.length=n at hin hbd hlen
  repeat' (first|(simp only [hd,cJ,cO,aC,↓wA,↓wC,wB,cL,cK,bJ,bK,bL,reduceIte,reduceCtorEq,aA,bM,eQ])|((first|apply cG|apply cH|apply cF)<;>intro h<;>try simp only [h]))
  refine c8 (s':=⟨[(1,.d (.str l)),(2,.d (.ptr x.s)),(4,.ptr 1 0 []),(6,.d (.sl false 1 (dl D.str (w :: ws)))),(7,.d (.sl false 1 (dl iD n)))],[.dead,.box aPu,.dead,.dead]⟩) ((aH6 3 rfl).trans (cU _ rfl ⟨⟨rfl,rfl⟩,⟨rfl,rfl⟩,⟨rfl,rfl⟩,⟨rfl,rfl⟩,⟨by simp only [w8,tU,D.unown,dM,↓wA,↓wC,wB,cL,cK,bJ,bK,bL,reduceIte,reduceCtorEq,aA,bM,eQ],rfl⟩,trivial⟩)) ?_
  have hcase:n=[]\/(∃ a,n=[a])\/(∃ a b,n=[a,b])\/(∃ a b c,n=[a,b,c])\/4<=n.length:=by
   match n with
   | []=>exact .inl rfl
   | [a]=>exact .inr (.inl ⟨a,rfl⟩)
   | [a,b]=>exact .inr (.inr (.inl ⟨a,b,rfl⟩))
   | [a,b,c]=>exact .inr (.inr (.inr (.inl ⟨a,b,c,rfl⟩)))
   | a :: b :: c :: d :: r=>exact .inr (.inr (.inr (.inr (by simp))))
  rcases hcase with hk|⟨a,hk⟩|⟨a,b,hk⟩|⟨a,b,c,hk⟩|hk
  ·have e:ws=[]:=aX.1 (by rw [<- hlen,hk]; rfl)
   have ew:w=l:=aKy (by rw [hp,e])
   have hM:=aIX x.o l hv
   have hg:oU x.o w ws=(x.o,lP x.o l):=by unfold oU; rw [hin,hk,ew]
   have hI:decide ((n.length:Int)=0)=true:=by rw [hk]; rfl
   rw [hg]
   repeat' (first|(simp only [cJ,fT,aWx,aWy,aWA,aWv,aWw,aWz,cY,cO,c6,aG,aD,aB,eJ,iD,hw0,hI,↓eA,↓dF,↓wA,↓wC,wB,cL,cK,bJ,bK,bL,reduceIte,reduceCtorEq,aA,bM,eQ])|(with_reducible refine cQ ?_ ?_; focus omega)|(refine cQ rfl ?_)|(refine dL ?_)|(with_reducible refine aF ?_ ?_)|(refine cI hM (by simp [dB,dI,aWu]) rfl ?_)|((first|apply cG|apply cH|apply cF)<;>intro h<;>try simp only [h]))
   all_goals exact fD _ rfl rfl
  ·have hM:=aLp x w a hv
   simp only [mkC] at hM
   have hg:oU x.o w ws=pO x.o w a:=by unfold oU; rw [hin,hk]
   have hI:decide ((n.length:Int)=0)=false/\decide ((n.length:Int)=1)=true/\n[0]?=some a:=by rw [hk]; exact ⟨rfl,rfl,rfl⟩
   have hlN:n.length=1:=by rw [hk]; rfl
   rw [hg]
   repeat' (first|(simp only [cJ,fT,aWx,aWy,aWA,aWv,aWw,aWz,cY,cO,c6,aG,aD,aB,eJ,iD,hw0,hI,↓eA,↓dF,↓wA,↓wC,wB,cL,cK,bJ,bK,bL,reduceIte,reduceCtorEq,aA,bM,eQ])|(with_reducible refine cQ ?_ ?_; focus omega)|(refine cQ rfl ?_)|(refine dL ?_)|(with_reducible refine aF ?_ ?_)|(refine cI hM (by simp [dB,dI,aWB]) rfl ?_)|((first|apply cG|apply cH|apply cF)<;>intro h<;>try simp only [h]))
   all_goals exact fD _ rfl rfl
  ·have hM:=aKL x w a b hv
   simp only [mkC] at hM
   have hg:oU x.o w ws=rN x.o w a b:=by unfold oU; rw [hin,hk]
   have hI:decide ((n.length:Int)=0)=false/\decide ((n.length:Int)=1)=false/\decide ((n.length:Int)=2)=true/\n[0]?=some a/\n[1]?=some b:=by rw [hk]; exact ⟨rfl,rfl,rfl,rfl,rfl⟩
   have hlN:n.length=2:=by rw [hk]; rfl
   rw [hg]
   repeat' (first|(simp only [cJ,fT,aWx,aWy,aWA,aWv,aWw,aWz,cY,cO,c6,aG,aD,aB,eJ,iD,hw0,hI,↓eA,↓dF,↓wA,↓wC,wB,cL,cK,bJ,bK,bL,reduceIte,reduceCtorEq,aA,bM,eQ])|(with_reducible refine cQ ?_ ?_; focus omega)|(refine cQ rfl ?_)|(refine dL ?_)|(with_reducible refine aF ?_ ?_)|(refine cI hM (by simp [dB,dI,aWB]) rfl ?_)|((first|apply cG|apply cH|apply cF)<;>intro h<;>try simp only [h]))
   all_goals exact fD _ rfl rfl
  ·have hM:=nI x ⟨2,a,b,c⟩ hv
   rw [show Stp.d ⟨2,a,b,c⟩=j7 2 a b c from rfl] at hM
   simp only [mkC,j7] at hM
   have hlN:n.length=3:=by rw [hk]; rfl
   by_cases hw:w=kI
   ·have hg:oU x.o w ws=oR x.o ⟨2,a,b,c⟩:=by unfold oU; rw [hin,hk]; exact if_pos hw
    have hI:decide ((n.length:Int)=0)=false/\decide ((n.length:Int)=1)=false/\decide ((n.length:Int)=2)=false/\decide ((n.length:Int)=3)=true/\n[0]?=some a/\n[1]?=some b/\n[2]?=some c/\decide (w=kI)=true:=by rw [hk]; exact ⟨rfl,rfl,rfl,rfl,rfl,rfl,rfl,decide_eq_true hw⟩
    rw [hg]
    repeat' (first|(simp only [cJ,fT,aWx,aWy,aWA,aWv,aWw,aWz,cY,cO,c6,aG,aD,aB,eJ,iD,hw0,hI,↓eA,↓dF,↓wA,↓wC,wB,cL,cK,bJ,bK,bL,reduceIte,reduceCtorEq,aA,bM,eQ])|(with_reducible refine cQ ?_ ?_; focus omega)|(refine cQ rfl ?_)|(refine dL ?_)|(with_reducible refine aF ?_ ?_)|(refine cI hM (by simp [dB,dI,aWB]) rfl ?_)|((first|apply cG|apply cH|apply cF)<;>intro h<;>try simp only [h]))
    all_goals exact fD _ rfl rfl
   ·have hg:oU x.o w ws=(x.o,qm):=by unfold oU; rw [hin,hk]; exact if_neg hw
    have hI:decide ((n.length:Int)=0)=false/\decide ((n.length:Int)=1)=false/\decide ((n.length:Int)=2)=false/\decide ((n.length:Int)=3)=true/\decide (w=kI)=false:=by rw [hk]; exact ⟨rfl,rfl,rfl,rfl,decide_eq_false hw⟩
    rw [hg]
    repeat' (first|(simp only [cJ,fT,aWx,aWy,aWA,aWv,aWw,aWz,cY,cO,c6,aG,aD,aB,eJ,iD,hw0,hI,↓eA,↓dF,↓wA,↓wC,wB,cL,cK,bJ,bK,bL,reduceIte,reduceCtorEq,aA,bM,eQ])|(with_reducible refine cQ ?_ ?_; focus omega)|(refine cQ rfl ?_)|(refine dL ?_)|(with_reducible refine aF ?_ ?_)|((first|apply cG|apply cH|apply cF)<;>intro h<;>try simp only [h]))
    all_goals exact fD _ rfl rfl
  ·have hI:decide ((n.length:Int)=0)=false/\decide ((n.length:Int)=1)=false/\decide ((n.length:Int)=2)=false/\decide ((n.length:Int)=3)=false:=⟨decide_eq_false (by omega),decide_eq_false (by omega),decide_eq_false (by omega),decide_eq_false (by omega)⟩
   have hg:oU x.o w ws=(x.o,qm):=by
    unfold oU; rw [hin]
    match n,hk with
    | a :: b :: c :: d :: r,_=>rfl
   rw [hg]
   repeat' (first|(simp only [cJ,fT,aWx,aWy,aWA,aWv,aWw,aWz,cY,cO,c6,aG,aD,aB,eJ,iD,hw0,hI,↓eA,↓dF,↓wA,↓wC,wB,cL,cK,bJ,bK,bL,reduceIte,reduceCtorEq,aA,bM,eQ])|(with_reducible refine cQ ?_ ?_; focus omega)|(refine cQ rfl ?_)|(refine dL ?_)|(with_reducible refine aF ?_ ?_)|((first|apply cG|apply cH|apply cF)<;>intro h<;>try simp only [h]))
   all_goals exact fD _ rfl rfl
theorem aMb {o q:Off} {r w:List UInt8} {ws:List (List UInt8)} (ho:dP o=true) (h:aA8 o w ws=some (q,r)):dP q=true:=by
 unfold aA8 at h
 split at h
 ·cases h
 ·split at h
  ·split at h
   ·split at h
    ·rename_i hq
     obtain ⟨_,_,h⟩:=a7.1 h
     injection h with h _
     subst h
     exact yI hq
    ·cases h
   ·obtain ⟨_,_,h⟩:=a7.1 h
    injection h with h _
    subst h
    exact ho
  ·cases h
theorem aSG {o:Off} {w:List UInt8} {ws:List (List UInt8)} (ho:dP o=true):dP (oU o w ws).1=true:=by
 rw [aJq o w ws ho]
 cases h:aA8 o w ws with
 | none=>exact ho
 | some y=>exact aMb ho h
theorem aP3 (x:Con) (l w:List UInt8) (ws:List (List UInt8)) (ho:dP x.o=true):exA x l (aA8 x.o w ws)=(⟨(oU x.o w ws).1,(aCe x.d x.p x.c l (aA4 (oU x.o w ws).2)).1,(aCe x.d x.p x.c l (aA4 (oU x.o w ws).2)).2.1,(aCe x.d x.p x.c l (aA4 (oU x.o w ws).2)).2.2⟩,aA4 (oU x.o w ws).2):=by
 rw [aJq x.o w ws ho]
 unfold exA
 cases aA8 x.o w ws<;>rfl
theorem aAO (x:Con) (l:List UInt8) (h:x.ok0) (hl:l.length<=1048576):Fn prog 11 [x.s,.str l] (fun rs=>rs=[(exC x l).1.s,.str (exC x l).2]):=by
 have hV:=aCL x h
 have hO:=aEa x h
 have hml:l.length<=maxLen:=by rw [eD]; omega
 have hR:=xM l [] hml (by rw [eD]; decide)
 simp only [nD] at hR
 cases hv:oG x with
 | false =>
  rw [hv] at hV
  rw [aNF hv]
  refine cW aDl [] ?_
  dsimp only [aDl,cT,c7]
  repeat' (first|(simp only [pZ,pX,lA,lC,aWx,aWy,aWA,↓eA,eF,jQ,iC,↓kF,cJ,↓wA,↓wC,wB,cL,cK,bJ,bK,bL,reduceIte,reduceCtorEq,aA,bM,eQ])|(refine cQ rfl ?_)|(refine cI hV rfl rfl ?_)|(refine cI hO rfl rfl ?_)|((first|apply cG|apply cH|apply cF)<;>intro h<;>try simp only [h]))
  all_goals exact fD _ rfl rfl
 | true =>
  rw [hv] at hV
  cases hr:gG l [] with
  | false =>
   rw [hr] at hR
   rw [aJh hv hr]
   refine cW aDl [] ?_
   dsimp only [aDl,cT,c7]
   repeat' (first|(simp only [pZ,pX,lA,lC,aWx,aWy,aWA,↓eA,eF,jQ,iC,↓kF,cJ,↓wA,↓wC,wB,cL,cK,bJ,bK,bL,reduceIte,reduceCtorEq,aA,bM,eQ])|(refine cQ rfl ?_)|(refine cI hV rfl rfl ?_)|(refine cI hO rfl rfl ?_)|(refine cI hR rfl rfl ?_)|((first|apply cG|apply cH|apply cF)<;>intro h<;>try simp only [h]))
   all_goals exact fD _ rfl rfl
  | true =>
   rw [hr] at hR
   by_cases hc:x.c=60
   ·have hd:decide (x.c=60)=true:=decide_eq_true hc
    rw [aG3 hv hr hc]
    refine cW aDl [] ?_
    dsimp only [aDl,cT,c7]
    repeat' (first|(simp only [hd,pZ,pX,lA,lC,aWx,aWy,aWA,↓eA,eF,jQ,iC,↓kF,cJ,↓wA,↓wC,wB,cL,cK,bJ,bK,bL,reduceIte,reduceCtorEq,aA,bM,eQ])|(refine cQ rfl ?_)|(refine cI hV rfl rfl ?_)|(refine cI hO rfl rfl ?_)|(refine cI hR rfl rfl ?_)|((first|apply cG|apply cH|apply cF)<;>intro h<;>try simp only [h]))
    all_goals exact fD _ rfl rfl
   ·have hd:decide (x.c=60)=false:=decide_eq_false hc
    obtain ⟨w,ws,hp⟩:=aGy 32 l
    have hoff:dP x.o=true:=by
     simp only [oG,aL] at hv
     exact hv.1
    have hln:l.length<=1000:=by have:=mV hr; omega
    rw [aLI hv hr hc hp,aP3 x l w ws hoff]
    have hM:=aLt x l w ws hoff hln hp
    simp only [mkC] at hM
    have hq:=aSG (w:=w) (ws:=ws) hoff
    generalize oU x.o w ws=y at hM hq
    obtain ⟨q,r⟩:=y
    have hO2:=aEa ⟨q,x.d,x.p,x.c⟩ ⟨fB hq,h.2⟩
    by_cases hlong:200 < (r.length:Int)
    ·have hdl:decide (200 < (r.length:Int))=true:=decide_eq_true hlong
     rw [show aA4 r=[108,111,110,103] from if_pos hlong]
     have hds:∀ a b c,kG [1] (Con.mk q x.d x.p x.c).s (fE a b c)=(Con.mk q a b c).s:=fun _ _ _=>rfl
     have hs1:gU [1] (Con.mk q x.d x.p x.c).s=some (fE x.d x.p x.c):=rfl
     have hs2:fL [1] (Con.mk q x.d x.p x.c).s=5:=rfl
     obtain ⟨nn,hap⟩:=sF x.d x.p x.c l [108,111,110,103]
     have hAp:=vY x.d x.p x.c l [108,111,110,103] h.2 hml (by rw [eD]; first|decide|omega)
     rw [hap] at hAp
     simp only [nD] at hAp
     refine cW aDl [] ?_
     dsimp only [aDl,cT,c7]
     repeat' (first|(simp only [hd,hdl,hds,hs1,hs2,pZ,pX,lA,lC,aWx,aWy,aWA,↓eA,eF,jQ,iC,↓kF,cJ,↓wA,↓wC,wB,cL,cK,bJ,bK,bL,reduceIte,reduceCtorEq,aA,bM,eQ])|(refine cQ rfl ?_)|(refine cI hV rfl rfl ?_)|(refine cI hO rfl rfl ?_)|(refine cI hR rfl rfl ?_)|(refine cI hM rfl rfl ?_)|(refine cI hO2 rfl rfl ?_)|(refine cI hAp rfl rfl ?_)|((first|apply cG|apply cH|apply cF)<;>intro h<;>try simp only [h]))
     all_goals exact fD _ rfl rfl
    ·have hdl:decide (200 < (r.length:Int))=false:=decide_eq_false hlong
     rw [show aA4 r=r from if_neg hlong]
     have hds:∀ a b c,kG [1] (Con.mk q x.d x.p x.c).s (fE a b c)=(Con.mk q a b c).s:=fun _ _ _=>rfl
     have hs1:gU [1] (Con.mk q x.d x.p x.c).s=some (fE x.d x.p x.c):=rfl
     have hs2:fL [1] (Con.mk q x.d x.p x.c).s=5:=rfl
     obtain ⟨nn,hap⟩:=sF x.d x.p x.c l r
     have hAp:=vY x.d x.p x.c l r h.2 hml (by rw [eD]; first|decide|omega)
     rw [hap] at hAp
     simp only [nD] at hAp
     refine cW aDl [] ?_
     dsimp only [aDl,cT,c7]
     repeat' (first|(simp only [hd,hdl,hds,hs1,hs2,pZ,pX,lA,lC,aWx,aWy,aWA,↓eA,eF,jQ,iC,↓kF,cJ,↓wA,↓wC,wB,cL,cK,bJ,bK,bL,reduceIte,reduceCtorEq,aA,bM,eQ])|(refine cQ rfl ?_)|(refine cI hV rfl rfl ?_)|(refine cI hO rfl rfl ?_)|(refine cI hR rfl rfl ?_)|(refine cI hM rfl rfl ?_)|(refine cI hO2 rfl rfl ?_)|(refine cI hAp rfl rfl ?_)|((first|apply cG|apply cH|apply cF)<;>intro h<;>try simp only [h]))
     all_goals exact fD _ rfl rfl
theorem aMn {d p:List UInt8} {k:Int} (c r:List UInt8) (h:lv d p k=true):(aCe d p k c r).1.length + (aCe d p k c r).2.1.length<=1048576:=by
 have hs:=aFW h
 have hc:=aBS h
 unfold aCe
 split
 ·rename_i hg
  split
  ·simp only; omega
  ·have:=oF (k:=k) (by simp only [dW]; omega) hg.2
   simp only [aS,aC,aE]
   omega
 ·simp only; omega
theorem aJA {x:Con} {l:List UInt8} (h:x.ok0):(exC x l).1.ok0:=by
 unfold exC
 split
 ·rename_i hv
  split
  ·rename_i hr
   split
   ·exact h
   ·simp only [oG,aL] at hv
    refine ⟨?_,aMn l _ hv.2⟩
    unfold exA
    cases ha:aA8 x.o ((parts 32 l).headD []) (parts 32 l).tail with
    | none=>exact h.1
    | some y=>exact fB (aMb hv.1 ha)
  ·exact h
 ·exact h
theorem zB (x:Con) (l:List UInt8) (h:x.ok0) (hl:l.length<=1048576):Fn prog 13 [x.s,.str l] (fun rs=>rs=[(exC x l).1.s,.str (exC x l).2]):=by
 simpa [D.unown,aWJ] using fX (aAG x l h hl)
theorem aIt {w:World} {M:Nat->Prop} {d p:List UInt8} {c:Int} {cs:List Value} {fp:List Nat} (h:(fE d p c).rep w M cs fp):cs=[.string ⟨d.toArray⟩,.string ⟨p.toArray⟩,.int .i64 c]/\fp=[]:=by
 obtain ⟨_,_,_,_,rfl,rfl,⟨rfl,rfl⟩,_,_,_,_,rfl,rfl,⟨rfl,rfl⟩,_,_,_,_,rfl,rfl,⟨rfl,rfl⟩,rfl,rfl⟩:=h
 exact ⟨rfl,rfl⟩
theorem aK8 {w:World} {M:Nat->Prop} {o:Off} {cs:List Value} {fp:List Nat} (h:o.o.rep w M cs fp):∃ v1 v2,cs=[.int .i64 o.day,v1,.int .i64 o.kept,.int .i64 o.moved,v2]:=by
 obtain ⟨_,_,_,_,rfl,rfl,⟨rfl,rfl⟩,_,_,_,_,rfl,rfl,⟨_,_,_,_,_,rfl,_⟩,_,_,_,_,rfl,rfl,⟨rfl,rfl⟩,_,_,_,_,rfl,rfl,⟨rfl,rfl⟩,_,_,_,_,rfl,rfl,⟨_,_,_,_,_,rfl,_⟩,rfl,rfl⟩:=h
 exact ⟨_,_,rfl⟩
theorem pP (x:Con) (k:Int) (h0:0<=k) (h1:k<=1000) (ho:x.o.ok0):y7 prog 15 false x.o' [.int .i64 k] (fun x' rs=>x'=(Con.mk (mO k x.o) x.d x.p x.c).o'/\rs=[.int .i64 (k + j4 x.o.cs + x.o.led.length)]):=by
 intro M oc vs w hM hob hnd hlt hgl hvs
 obtain ⟨cs,hrep,hv⟩:=hob
 obtain ⟨_,_,_,_,rfl,hf0,⟨rfl,rfl⟩,rfl,rfl⟩:=hvs
 obtain ⟨c1,c2,f1,f2,rfl,hfp,ho1,c3,c4,f3,f4,rfl,rfl,hlog,rfl,rfl⟩:=hrep
 obtain ⟨rfl,rfl⟩:=aIt hlog
 have hfp:oc.fp=f1:=by rw [hfp]; simp
 obtain ⟨v1,v2,rfl⟩:=aK8 ho1
 have hv:oc.v=.agg #[.int .i64 x.o.day,v1,.int .i64 x.o.kept,.int .i64 x.o.moved,v2,.string ⟨x.d.toArray⟩,.string ⟨x.p.toArray⟩,.int .i64 x.c]:=hv
 show Calls Go.Proofs.Tryz.prog 15 #[oc.v,.int .i64 k] w _
 rw [hv]
 have hsz:(w.alloc (.cells #[.int .i64 x.o.day,v1,.int .i64 x.o.kept,.int .i64 x.o.moved,v2,.string ⟨x.d.toArray⟩,.string ⟨x.p.toArray⟩,.int .i64 x.c] 41)).heap.size=w.heap.size + 1:=tI _ _
 have hkp:∀ b,b < w.heap.size->(w.alloc (.cells #[.int .i64 x.o.day,v1,.int .i64 x.o.kept,.int .i64 x.o.moved,v2,.string ⟨x.d.toArray⟩,.string ⟨x.p.toArray⟩,.int .i64 x.c] 41)).heap[b]?=w.heap[b]?:=fun b hb=>(MapKept.heap_alloc w _).2 b hb
 subst hfp
 have hC:=aDo x.o k h0 h1 ho M ⟨.agg #[.int .i64 x.o.day,v1,.int .i64 x.o.kept,.int .i64 x.o.moved,v2],0,oc.fp⟩ [.int .i64 k] _ (fun b hb=>by have:=hM b hb; omega) ⟨_,eC (by omega) (fun b _ hb=>hb) _ _ _ (fun b hb _=>hkp b hb) ho1,rfl⟩ hnd (fun b hb=>⟨by have:=(hlt b hb).1; omega,(hlt b hb).2⟩) (GOK.frame hgl (fun b _ hb=>hb) (by omega) (fun b hb _=>hkp b hb)) ⟨_,_,_,_,rfl,rfl,⟨rfl,rfl⟩,rfl,rfl⟩
 simp only [mkV,if_neg] at hC
 have hgs:∀ w2:World,Went (w.alloc (.cells #[.int .i64 x.o.day,v1,.int .i64 x.o.kept,.int .i64 x.o.moved,v2,.string ⟨x.d.toArray⟩,.string ⟨x.p.toArray⟩,.int .i64 x.c] 41)) w2 (fun b=>b∈oc.fp)->Went w w2 (fun b=>b∈oc.fp):=fun w2 h=>⟨h.os,h.tape,h.output,by have:=h.size; omega,fun b hb hn=>(h.kept b (by omega) hn).trans (hkp b hb)⟩
 have hnt:Go.Proofs.Tryz.f15.ntmps=10:=rfl
 go_enter Go.Proofs.Tryz.func15,hnt
 clear hgl hM hnd hlog hf0
 go_wp2_with fail
 refine Calls.mono hC ?_
 rintro e w2 ⟨x',rs,us,fo,fp,rfl,⟨rfl,rfl⟩,⟨cs',hr,hv'⟩,⟨_,_,_,_,rfl,rfl,⟨rfl,rfl⟩,rfl,rfl⟩,hn,hm,hg⟩
 have hg:=hgs w2 hg
 have hm:∀ b∈fo ++ [],(b∈oc.fp\/w.heap.size<=b)/\b < w2.heap.size:=fun b hb=>⟨(hm b hb).1.imp id (fun h=>by omega),(hm b hb).2⟩
 clear hC hgs hkp hsz
 go_wp2
 go_ret
 refine ⟨_,_,_,fo,[],rfl,⟨rfl,rfl⟩,?_,⟨_,_,_,_,rfl,rfl,⟨rfl,rfl⟩,rfl,rfl⟩,hn,hm,hg⟩
 have hv':Value.agg #[.int .i64 x.o.day,v1,.int .i64 x.o.kept,.int .i64 x.o.moved,v2]=Value.agg cs'.toArray:=hv'
 injection hv' with hv'
 have hv':=congrArg Array.toList hv'
 simp only [] at hv'
 subst hv'
 exact ⟨_,⟨_,_,fo,[],rfl,by simp,by simpa using hr,_,_,[],[],rfl,rfl,⟨_,_,_,_,rfl,rfl,⟨rfl,rfl⟩,_,_,_,_,rfl,rfl,⟨rfl,rfl⟩,_,_,_,_,rfl,rfl,⟨rfl,rfl⟩,rfl,rfl⟩,rfl,rfl⟩,rfl⟩
end Go.Pe.Tryz
