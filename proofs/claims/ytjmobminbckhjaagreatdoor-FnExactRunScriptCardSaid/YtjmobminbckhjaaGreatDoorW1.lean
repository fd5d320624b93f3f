/- Records of a log: what a valid one is, walked; What a valid record is, and a record among the laws' helpers, walked; The lines of a log as plain lists of bytes: what a line is, how it is read, that there is one way alone; Numbers as decimal text: the library's, and the reference's own road to it; The law of EncodeRecord, walked; Logs read, as plain lists: cuts, parts, the records of a text; A text cut, split, verified, walked; The records at the start of a text: the program's road, the reference's; The reference's road through a text of records; What a valid log is; the laws of RecoverLog, IsValidLog, SyncLog; The law of AppendRecord; The law of LogRecords: marks on records; Appeals among the laws' helpers: sizes, copies, equality; walked; Lists of appeals among the laws' helpers: sizes and copies; walked; Copies of lists of appeals, walked; Small tests of appeals, walked; Rising lists, walked; Is an appeal valid? walked; Valid appeals, walked; Valid lists of appeals, walked -/
import Derived.Test.YtjmobminbckhjaaGreatDoorPeD
import Derived.Test.YtjmobminbckhjaaGreatDoorMc1
import Derived.Test.YtjmobminbckhjaaGreatDoorMc2
import Derived.Test.YtjmobminbckhjaaGreatDoorMc3
import Derived.Test.YtjmobminbckhjaaGreatDoorMc4
import Derived.Test.YtjmobminbckhjaaGreatDoorMc5
import Derived.Test.YtjmobminbckhjaaGreatDoorMc6
import Derived.Test.YtjmobminbckhjaaGreatDoorMc7
import Derived.Test.YtjmobminbckhjaaGreatDoorMc8
import Derived.Test.YtjmobminbckhjaaGreatDoorShelf
import Derived.Lib.ItoaNum
import Derived.Lib.IndexMore
import Derived.Lib.ItoaLen
set_option maxRecDepth 100000
set_option maxHeartbeats 4000000
set_option linter.all false
open Bool renaming and_eq_true->aU
open Int renaming toNat_natCast->aB, toNat_zero->aJ, tmod_eq_emod_of_nonneg->aN, tdiv_eq_ediv_of_nonneg->aX, eq_ofNat_of_zero_le->bA
open List renaming length_append->aC, length_singleton->aD, contains_iff_mem->aF, take_succ_eq_append_getElem->aG, length_cons->aH, take_of_length_le->aI, mem_cons->aL, length_drop->aM, mem_of_getElem?->aO, takeWhile_cons->aQ, mem_singleton->aR, length_nil->aS, replicate->aT, mem_append->aV, dropWhile_cons->aW, drop_eq_getElem_cons->aY, cons_append->aZ, take_length->a6, all_eq_true->a7, append_cancel_right->a8, drop_drop->bB, getD->bE, all_eq_false->bF, foldl_append->bG, drop_left'->bK, isPrefixOf->bL
open Nat renaming reduceBEq->aA, zero_le->aP, le_trans->bD, strongRecOn->bJ, le_refl->bM, reduceEqDiff->bP, reduceAdd->bQ, reduceSub->bR, reduceLT->bT
open Option renaming map_some->aE
open UInt8 renaming ofNat->aK, toNat_ofNat'->bC, toNat_inj->bH
namespace Go.Pe.Tryz
open Go.Proofs.Tryz
def dC (n a b:Int):Bool:=decide (a<=n) && decide (n<=b)
theorem e9 (n a b:Int):Fn prog 67 [.int .i64 n,.int .i64 a,.int .i64 b] (fun rs=>rs=[.bool (dC n a b)]):=by
 refine cW aUD [] ?_
 dsimp only [aUD,cT,c7]
 simp only [↓wA,↓wC,wB,cL,cK,bP,bQ,bR,reduceIte,reduceCtorEq,aA,bT]
 refine cG (fun h=>?_) (fun h=>?_)<;>simp only [h,↓wA,↓wC,wB,cL,cK,bP,bQ,bR,reduceIte,reduceCtorEq,aA,bT]
 all_goals simp [dC,h]
theorem iK (n a b:Int):Fn prog 85 [.int .i64 n,.int .i64 a,.int .i64 b] (fun rs=>rs=[.bool (dC n a b)]):=by
 refine cW aVk [] ?_
 dsimp only [aVk,cT,c7]
 simp only [↓wA,↓wC,wB,cL,cK,bP,bQ,bR,reduceIte,reduceCtorEq,aA,bT]
 refine cG (fun h=>?_) (fun h=>?_)<;>simp only [h,↓wA,↓wC,wB,cL,cK,bP,bQ,bR,reduceIte,reduceCtorEq,aA,bT]
 all_goals simp [dC,h]
def isP (b:UInt8):Bool:=dC (b.toNat:Int) 32 126 && !decide ((b.toNat:Int)=35)
def plain (s:List UInt8):Bool:=s.all isP
theorem aBw {s:List UInt8} {i:Nat} {b:UInt8} (h:s[i]?=some b) (hp:plain (s.take i)=true) (hb:isP b=true):plain (s.take (i + 1))=true:=by
 have hi:=cV h
 rw [aG hi]
 have:s[i]=b:=by rw [List.getElem?_eq_getElem hi] at h; injection h
 unfold plain at *
 rw [List.all_append,hp,this]
 simp [hb]
theorem aCs {s:List UInt8} {i:Nat} {b:UInt8} (h:s[i]?=some b) (hb:isP b=false):plain s=false:=by
 unfold plain
 rw [bF]
 exact ⟨b,aO h,by simp [hb]⟩
theorem eD:maxLen=9223372036854775807:=rfl
theorem sY (s:List UInt8) (hl:s.length<=maxLen):Fn prog 68 [.str s] (fun rs=>rs=[.bool (plain s)]):=by
 rw [eD] at hl
 refine cW aU2 [] ?_
 dsimp only [aU2,cT,c7]
 simp only [↓wA,↓wC,wB,cL,cK,bP,bQ,bR,reduceIte,reduceCtorEq,aA,bT]
 refine d5 (fun i:Nat=>⟨[(0,.d (.str s)),(5,.d (.int .i64 s.length)),(6,.d (.int .i64 i))],[]⟩)
  (fun i=>i<=s.length/\plain (s.take i)=true) (fun i=>s.length - i) 0 (cU [] rfl ⟨⟨rfl,rfl⟩,⟨rfl,rfl⟩,⟨rfl,rfl⟩,trivial⟩) ⟨aP _,by simp [plain]⟩ ?_
 rintro i ⟨hi,hp⟩
 by_cases hlt:i < s.length
 ·obtain ⟨b,hb⟩:=dQ hlt
  have hd:decide ((i:Int) < (s.length:Int))=true:=decide_eq_true (by omega)
  have h0:(0:Int)<=(i:Int):=by omega
  repeat' (first|(simp only [hd,h0,hb,aB,cJ,↓wA,↓wC,wB,cL,cK,bP,bQ,bR,reduceIte,reduceCtorEq,aA,bT])|(refine cP (by simp only [dW]; omega) ?_)|((first|apply cG|apply cH|apply cF)<;>intro h<;>try simp only [h]))
  all_goals first
   |(refine (congrArg (fun x=>[D.bool x]) (aCs hb ?_)).symm; simp_all [isP,dC]; done)
   |(refine (congrArg (fun x=>[D.bool x]) (aCs hb ?_)).symm; simp_all [isP,dC]; omega)
   |(exact ⟨i + 1,cU [] rfl ⟨⟨rfl,rfl⟩,⟨rfl,rfl⟩,⟨rfl,rfl⟩,trivial⟩,⟨by omega,aBw hb hp (by simp_all [isP,dC]<;>omega)⟩,by omega⟩)
 ·have hd:decide ((i:Int) < (s.length:Int))=false:=decide_eq_false (by omega)
  simp only [hd,↓wA,↓wC,wB,cL,cK,bP,bQ,bR,reduceIte,reduceCtorEq,aA,bT]
  rw [aI (by omega)] at hp
  rw [hp]
theorem qZ (s:List UInt8) (m:Int) (hl:s.length<=maxLen):Fn prog 54 [.str s,.int .i64 m] (fun rs=>rs=[.bool (plain s && decide ((s.length:Int)<=m))]):=by
 rw [eD] at hl
 refine cW aVj [] ?_
 dsimp only [aVj,cT,c7]
 simp only [↓wA,↓wC,wB,cL,cK,bP,bQ,bR,reduceIte,reduceCtorEq,aA,bT]
 refine d5 (fun i:Nat=>⟨[(0,.d (.str s)),(1,.d (.int .i64 m)),(5,.d (.int .i64 i))],[]⟩)
  (fun i=>i<=s.length/\plain (s.take i)=true) (fun i=>s.length - i) 0 (cU [] rfl ⟨⟨rfl,rfl⟩,⟨rfl,rfl⟩,⟨rfl,rfl⟩,trivial⟩) ⟨aP _,by simp [plain]⟩ ?_
 rintro i ⟨hi,hp⟩
 by_cases hlt:i < s.length
 ·obtain ⟨b,hb⟩:=dQ hlt
  have hd:decide ((i:Int) < (s.length:Int))=true:=decide_eq_true (by omega)
  have h0:(0:Int)<=(i:Int):=by omega
  have hbl:(b.toNat:Int) < 256:=by have:=b.toNat_lt; omega
  repeat' (first|(simp only [hd,h0,hb,aB,cJ,↓wA,↓wC,wB,cL,cK,bP,bQ,bR,reduceIte,reduceCtorEq,aA,bT])|(refine cI (iK _ _ _) rfl rfl ?_)|(refine cM (iK _ _ _) rfl rfl ?_)|(refine cP (by simp only [dW]; omega) ?_)|((first|apply cG|apply cH|apply cF)<;>intro h<;>try simp only [h]))
  all_goals first
   |(rw [aCs hb (by simp_all [isP])]; rfl)
   |(exact ⟨i + 1,cU [] rfl ⟨⟨rfl,rfl⟩,⟨rfl,rfl⟩,⟨rfl,rfl⟩,trivial⟩,⟨by omega,aBw hb hp (by simp_all [isP])⟩,by omega⟩)
 ·have hd:decide ((i:Int) < (s.length:Int))=false:=decide_eq_false (by omega)
  simp only [hd,↓wA,↓wC,wB,cL,cK,bP,bQ,bR,reduceIte,reduceCtorEq,aA,bT]
  rw [aI (by omega)] at hp
  rw [hp]
  simp
theorem aAC (s:List UInt8) (c:UInt8) (hl:s.length<=maxLen):Fn prog 55 [.str s,.int .u8 (c.toNat:Int)] (fun rs=>rs=[.bool (s.contains c)]):=by
 rw [eD] at hl
 refine cW aVF [] ?_
 dsimp only [aVF,cT,c7]
 simp only [↓wA,↓wC,wB,cL,cK,bP,bQ,bR,reduceIte,reduceCtorEq,aA,bT]
 refine d5 (fun i:Nat=>⟨[(0,.d (.str s)),(1,.d (.int .u8 (c.toNat:Int))),(5,.d (.int .i64 i))],[]⟩)
  (fun i=>i<=s.length/\c ∉ s.take i) (fun i=>s.length - i) 0 (cU [] rfl ⟨⟨rfl,rfl⟩,⟨rfl,rfl⟩,⟨rfl,rfl⟩,trivial⟩) ⟨aP _,by simp⟩ ?_
 rintro i ⟨hi,hp⟩
 by_cases hlt:i < s.length
 ·obtain ⟨b,hb⟩:=dQ hlt
  have hd:decide ((i:Int) < (s.length:Int))=true:=decide_eq_true (by omega)
  have h0:(0:Int)<=(i:Int):=by omega
  have hbc:decide ((b.toNat:Int)=(c.toNat:Int))=decide (b=c):=by
   apply decide_eq_decide.2
   constructor
   ·intro h; exact bH.1 (by omega)
   ·intro h; rw [h]
  by_cases hc:b=c
  ·have hm:s.contains c=true:=by rw [aF]; rw [<- hc]; exact aO hb
   simp only [hd,h0,hb,aB,cJ,hbc,hc,hm,↓wA,↓wC,wB,cL,cK,bP,bQ,bR,reduceIte,reduceCtorEq,aA,bT]
  ·simp only [hd,h0,hb,aB,cJ,hbc,hc,↓wA,↓wC,wB,cL,cK,bP,bQ,bR,reduceIte,reduceCtorEq,aA,bT]
   refine cP (by simp only [dW]; omega) ?_
   refine ⟨i + 1,cU [] rfl ⟨⟨rfl,rfl⟩,⟨rfl,rfl⟩,⟨rfl,rfl⟩,trivial⟩,⟨by omega,?_⟩,by omega⟩
   have hi:=cV hb
   rw [aG hi]
   have:s[i]=b:=by rw [List.getElem?_eq_getElem hi] at hb; injection hb
   rw [this]
   simp only [aV,aR,not_or]
   exact ⟨hp,fun h=>hc h.symm⟩
 ·have hd:decide ((i:Int) < (s.length:Int))=false:=decide_eq_false (by omega)
  simp only [hd,↓wA,↓wC,wB,cL,cK,bP,bQ,bR,reduceIte,reduceCtorEq,aA,bT]
  rw [aI (by omega)] at hp
  have:s.contains c=false:=by
   cases h:s.contains c with
   | false=>rfl
   | true=>exact absurd (aF.1 h) hp
  rw [this]
def gG (c r:List UInt8):Bool:=dC c.length 1 160 && decide ((r.length:Int)<=200) && plain c && plain r && !c.contains 64
def nD (c r:List UInt8):D:=.st (.cons (.str c) (.cons (.str r) .nil))
theorem xM (c r:List UInt8) (hc:c.length<=maxLen) (hr:r.length<=maxLen):Fn prog 30 [nD c r] (fun rs=>rs=[.bool (gG c r)]):=by
 have hne:(!decide (c=([]:List UInt8)))=decide (1<=(c.length:Int)):=by
  cases c with
  | nil=>rfl
  | cons a c=>simp; omega
 have h64:(64:Int)=((64:UInt8).toNat:Int):=rfl
 refine cW aUK [] ?_
 dsimp only [aUK,cT,c7]
 simp only [nD]
 repeat' (first|(simp only [hne,↓wA,↓wC,wB,cL,cK,bP,bQ,bR,reduceIte,reduceCtorEq,aA,bT])|(refine cI (qZ _ _ hc) rfl rfl ?_)|(refine cM (qZ _ _ hc) rfl rfl ?_)|(refine cI (qZ _ _ hr) rfl rfl ?_)|(refine cM (qZ _ _ hr) rfl rfl ?_)|(refine cI (aAC c 64 hc) rfl rfl ?_)|(refine cM (aAC c 64 hc) rfl rfl ?_)|((first|apply cG|apply cH|apply cF)<;>intro h<;>try simp only [h]))
 all_goals (cases hpc:plain c<;>cases hpr:plain r<;>simp_all [gG,dC]<;>omega)
theorem v8:∀ (s:List UInt8) (c:UInt8),decide (0<=Go.Lib.indexByte s c)=s.contains c
 | [],c=>by simp [Go.Lib.indexByte]
 | b :: s,c=>by
  have ih:=v8 s c
  have hge:=Go.Lib.indexByte_ge s c
  unfold Go.Lib.indexByte
  by_cases h:b=c
  ·simp [h]
  ·have h1:(b == c)=false:=by simpa using h
   have h2:(b :: s).contains c=s.contains c:=by simp [List.contains_cons,h,eq_comm]
   simp only [h1,Bool.false_eq_true,if_false,h2]
   rw [<- ih]
   split
   ·rename_i h3
    have:Go.Lib.indexByte s c=-1:=by simpa using h3
    simp [this]
   ·rename_i h3
    have:Go.Lib.indexByte s c≠-1:=by simpa using h3
    apply decide_eq_decide.2
    omega
theorem jU (s:List UInt8) (c:UInt8):Fn prog 69 [.str s,.str [c]] (fun rs=>rs=[.bool (s.contains c)]) :=
 aIa rfl rfl fun w _=>(Go.Proofs.Tryz.strings_Contains_one ⟨s.toArray⟩ c w).mono (by
  rintro e w' ⟨rfl,rfl⟩
  refine ⟨?_,lL.refl _⟩
  rw [<- v8]
  simp [rF])
theorem nP (c r:List UInt8) (hc:c.length<=maxLen) (hr:r.length<=maxLen):Fn prog 36 [nD c r] (fun rs=>rs=[.bool (gG c r)]):=by
 refine cW aUP [] ?_
 dsimp only [aUP,cT,c7]
 simp only [nD]
 repeat' (first|(simp only [↓wA,↓wC,wB,cL,cK,bP,bQ,bR,reduceIte,reduceCtorEq,aA,bT])|(refine cI (e9 _ _ _) rfl rfl ?_)|(refine cM (e9 _ _ _) rfl rfl ?_)|(refine cI (sY _ hc) rfl rfl ?_)|(refine cM (sY _ hc) rfl rfl ?_)|(refine cI (sY _ hr) rfl rfl ?_)|(refine cM (sY _ hr) rfl rfl ?_)|(refine cI (jU c 64) rfl rfl ?_)|(refine cM (jU c 64) rfl rfl ?_)|((first|apply cG|apply cH|apply cF)<;>intro h<;>try simp only [h]))
 all_goals (cases hpc:plain c<;>cases hpr:plain r<;>simp_all [gG,dC]<;>omega)
end Go.Pe.Tryz
namespace Go.Pe.Tryz
def aVy (b:UInt8):Prop:=b=45\/(48<=b.toNat/\b.toNat<=57)
theorem lR:∀ (u:Nat),∀ b∈Lib.decDigits u,48<=b.toNat/\b.toNat<=57:=by
 intro u
 induction u using bJ with
 | _ u ih =>
  intro b hb
  rw [Lib.decDigits] at hb
  have one:∀ d:Nat,d < 10->(aK (48 + d)).toNat=48 + d:=fun d hd=>by
   rw [bC]; omega
  by_cases h:u < 10
  ·rw [dif_pos h] at hb
   simp only [aR] at hb
   rw [hb,one u h]; omega
  ·rw [dif_neg h] at hb
   rcases aV.1 hb with hb|hb
   ·exact ih (u / 10) (by omega) b hb
   ·simp only [aR] at hb
    rw [hb,one (u % 10) (by omega)]; omega
theorem aMm (n:Int):∀ b∈Lib.itoa n,aVy b:=by
 intro b hb
 unfold Lib.itoa at hb
 split at hb
 ·rcases aL.1 hb with hb|hb
  ·exact .inl hb
  ·exact .inr (lR _ b hb)
 ·exact .inr (lR _ b hb)
theorem aG6 (n:Int) (c:UInt8) (hc:c≠45) (h:c.toNat < 48\/57 < c.toNat):c ∉ Lib.itoa n:=fun hm=>by
 rcases aMm n c hm with h1|h1
 ·exact hc h1
 ·omega
theorem mZ (u:Nat):Lib.decDigits u≠[]:=by
 rw [Lib.decDigits]
 by_cases h:u < 10
 ·rw [dif_pos h]; simp
 ·rw [dif_neg h]; simp
def cZ (x:UInt8) (s:List UInt8):List UInt8:=s.takeWhile (· != x)
def after (x:UInt8) (s:List UInt8):List UInt8:=(s.dropWhile (· != x)).drop 1
theorem pJ {x:UInt8}:∀ {s t:List UInt8},x ∉ s->cZ x (s ++ x :: t)=s
 | [],t,_=>by simp [cZ]
 | b :: s,t,h=>by
  simp only [aL,not_or] at h
  have hb:(b != x)=true:=by simpa [bne_iff_ne] using fun e=>h.1 e.symm
  have:=pJ (t:=t) h.2
  unfold cZ at *
  simp only [aZ,aQ,hb,if_true,this]
theorem vD {x:UInt8}:∀ {s t:List UInt8},x ∉ s->after x (s ++ x :: t)=t
 | [],t,_=>by simp [after]
 | b :: s,t,h=>by
  simp only [aL,not_or] at h
  have hb:(b != x)=true:=by simpa [bne_iff_ne] using fun e=>h.1 e.symm
  have:=vD (t:=t) h.2
  unfold after at *
  simp only [aZ,aW,hb,if_true,this]
theorem oB {x:UInt8}:∀ {s:List UInt8},x ∉ s->cZ x s=s
 | [],_=>rfl
 | b :: s,h=>by
  simp only [aL,not_or] at h
  have hb:(b != x)=true:=by simpa [bne_iff_ne] using fun e=>h.1 e.symm
  have:=oB h.2
  unfold cZ at *
  simp only [aQ,hb,if_true,this]
theorem aBA {x:UInt8}:∀ {s:List UInt8},x ∉ s->after x s=[]
 | [],_=>rfl
 | b :: s,h=>by
  simp only [aL,not_or] at h
  have hb:(b != x)=true:=by simpa [bne_iff_ne] using fun e=>h.1 e.symm
  have:=aBA h.2
  unfold after at *
  simp only [aW,hb,if_true,this]
theorem yM {x:UInt8}:∀ {s:List UInt8},x∈s->s=cZ x s ++ x :: after x s
 | b :: s,h=>by
  by_cases e:b=x
  ·subst e; simp [cZ,after]
  ·have hb:(b != x)=true:=by simpa [bne_iff_ne] using e
   have hm:x∈s:=by
    rcases aL.1 h with h|h
    ·exact absurd h.symm e
    ·exact h
   have ih:=yM hm
   unfold cZ after at *
   simp only [aQ,aW,hb,if_true,aZ]
   rw [<- ih]
theorem aB6 (x:UInt8):∀ (s:List UInt8),x ∉ cZ x s
 | []=>by simp [cZ]
 | b :: s=>by
  by_cases e:b=x
  ·subst e; simp [cZ]
  ·have hb:(b != x)=true:=by simpa [bne_iff_ne] using e
   have ih:=aB6 x s
   unfold cZ at *
   simp only [aQ,hb,if_true,aL,not_or]
   exact ⟨fun h=>e h.symm,ih⟩
theorem mP (x:UInt8) (s:List UInt8):(cZ x s).length<=s.length:=(List.takeWhile_sublist _).length_le
theorem r5 {x:UInt8} {s:List UInt8} (h:x∈s):(cZ x s).length + 1 + (after x s).length=s.length:=by
 have:=congrArg List.length (yM h)
 simp at this; omega
theorem aHc {x:UInt8} (s:List UInt8):cZ x s=s.take (cZ x s).length:=by
 by_cases h:x∈s
 ·have h1:(cZ x s ++ x :: after x s).take (cZ x s).length=cZ x s:=List.take_left' rfl
  rw [<- yM h] at h1
  exact h1.symm
 ·rw [oB h,a6]
theorem w9 {x:UInt8} {s:List UInt8} (h:x∈s):after x s=s.drop ((cZ x s).length + 1):=by
 have h1:(cZ x s ++ x :: after x s).drop ((cZ x s).length + 1)=after x s:=by
  rw [<- bB,bK rfl]; rfl
 rw [<- yM h] at h1
 exact h1.symm
def ckf (h:Int) (b:UInt8):Int:=(41 * h + (b.toNat:Int) + 1) % 999979
def ck (s:List UInt8):Int:=s.foldl ckf 7
theorem aDb (s:List UInt8):0<=ck s/\ck s < 999979:=by
 unfold ck
 have:∀ (s:List UInt8) (h:Int),0<=h/\h < 999979->0<=s.foldl ckf h/\s.foldl ckf h < 999979:=by
  intro s
  induction s with
  | nil=>intro h hh; exact hh
  | cons b s ih =>
   intro h hh
   refine ih _ ?_
   unfold ckf
   omega
 exact this s 7 (by omega)
def jA (s:List UInt8):List UInt8:=s ++ 35 :: Lib.itoa (ck s)
def body (k:Int) (c r:List UInt8):List UInt8:=Lib.itoa k ++ 32 :: (c ++ 64 :: r)
def mJ (k:Int) (c r:List UInt8):List UInt8:=jA (body k c r)
theorem aDD {s:List UInt8} (h:plain s=true) {x:UInt8} (hx:isP x=false):x ∉ s:=fun hm=>by
 have:=(a7.1 h) x hm
 rw [hx] at this; cases this
theorem mV {c r:List UInt8} (h:gG c r=true):1<=c.length/\c.length<=160/\r.length<=200/\plain c=true/\plain r=true/\(64:UInt8) ∉ c:=by
 simp only [gG,dC,aU,decide_eq_true_eq,Bool.not_eq_true'] at h
 obtain ⟨⟨⟨⟨⟨h1,h2⟩,h3⟩,h4⟩,h5⟩,h6⟩:=h
 refine ⟨by omega,by omega,by omega,h4,h5,fun hm=>?_⟩
 rw [aF.2 hm] at h6; cases h6
theorem aD3 {k:Int} {c r:List UInt8} (h:gG c r=true):(35:UInt8) ∉ body k c r:=by
 obtain ⟨_,_,_,hc,hr,_⟩:=mV h
 unfold body
 simp only [aV,aL,not_or]
 exact ⟨aG6 k 35 (by decide) (by decide),by decide,aDD hc (by decide),by decide,aDD hr (by decide)⟩
def rd (k:Int) (L:List UInt8):Option (List UInt8×List UInt8) :=
 let rest:=(cZ 35 L).drop ((Lib.itoa k).length + 1)
 if gG (cZ 64 rest) (after 64 rest)=true/\mJ k (cZ 64 rest) (after 64 rest)=L then some (cZ 64 rest,after 64 rest) else none
theorem uX {k:Int} {c r:List UInt8} (h:gG c r=true):cZ 35 (mJ k c r)=body k c r:=pJ (aD3 h)
theorem aD4 {k:Int} {c r:List UInt8}:(body k c r).drop ((Lib.itoa k).length + 1)=c ++ 64 :: r:=by
 unfold body
 rw [<- bB,bK rfl]; rfl
theorem aB5 {k:Int} {L c r:List UInt8}:rd k L=some (c,r)↔gG c r=true/\mJ k c r=L:=by
 constructor
 ·intro h
  simp only [rd] at h
  split at h
  ·rename_i h1
   injection h with h
   injection h with h2 h3
   subst h2 h3
   exact h1
  ·cases h
 ·rintro ⟨h1,rfl⟩
  have h64:=(mV h1).2.2.2.2.2
  simp only [rd,uX h1,aD4,pJ h64,vD h64]
  rw [if_pos ⟨h1,trivial⟩]
def gP:Nat->Int->List UInt8->List (List UInt8×List UInt8)×Nat
 | 0,_,_=>([],0)
 | n + 1,k,s=>if (10:UInt8)∈s then
     match rd k (cZ 10 s) with
     | some e=>(e :: (gP n (k + 1) (after 10 s)).1,(cZ 10 s).length + 1 + (gP n (k + 1) (after 10 s)).2)
     | none=>([],0)
  else ([],0)
theorem y6:∀ (n:Nat) (k:Int) (s:List UInt8),(gP n k s).2<=s.length/\(gP n k s).1.length<=n
 | 0,_,_=>by simp [gP]
 | n + 1,k,s=>by
  simp only [gP]
  split
  ·rename_i h
   split
   ·have ih:=y6 n (k + 1) (after 10 s)
    have:=r5 h
    simp only [aH]
    omega
   ·simp
  ·simp
end Go.Pe.Tryz
namespace Go.Pe.Tryz
open Go.Proofs.Tryz Go.Sort
theorem lL.grow {w:World} (k:Nat) (os:Array Obj):lL w (Go.Sort.grow (w.drewN k) os):=by
 refine ⟨rfl,rfl,rfl,?_,?_⟩
 ·simp [Go.Sort.grow,World.drewN]
 ·intro b hb
  simp only [Go.Sort.grow]
  exact Array.getElem?_append_left (xs:=w.heap) (ys:=os) hb
theorem aJx (n:Int) (h:dW .i64 n):Fn prog 144 [.int .i64 n] (fun rs=>rs=[.str (Lib.itoa n)]) :=
 aIa rfl rfl fun w hF=>(Go.Proofs.Tryz.strconv_Itoa n (by simp only [dW] at h; omega) (by simp only [dW] at h; omega) w (aTP hF)).mono (by
  rintro e w' ⟨rfl,k,os,rfl⟩
  exact ⟨rfl,lL.grow k os⟩)
theorem fG (n:Int) (h:dW .i64 n):Fn prog 106 [.int .i64 n] (fun rs=>rs=[.str (Lib.itoa n)]):=by
 refine cW aR4 [] ?_
 dsimp only [aR4,cT,c7]
 repeat' (first|(simp only [↓wA,↓wC,wB,cL,cK,bP,bQ,bR,reduceIte,reduceCtorEq,aA,bT])|(refine cI (aJx n h) rfl rfl ?_)|(refine cM (aJx n h) rfl rfl ?_)|((first|apply cG|apply cH|apply cF)<;>intro h<;>try simp only [h]))
theorem aKH:∀ d:Fin 10,((([48,49,50,51,52,53,54,55,56,57]:List UInt8).take (d.val + 1)).drop d.val)=[aK (48 + d.val)]:=by decide
theorem tK {u:Nat} (h:u < 10):Lib.decDigits u=[aK (48 + u)]:=by
 rw [Lib.decDigits,dif_pos h]
theorem uR {u:Nat} (h:¬ u < 10):Lib.decDigits u=Lib.decDigits (u / 10) ++ [aK (48 + u % 10)]:=by
 rw [Lib.decDigits,dif_neg h]
theorem aEh (d:Nat) (h:d < 10):((([48,49,50,51,52,53,54,55,56,57]:List UInt8).take (d + 1)).drop d)=[aK (48 + d)]:=aKH ⟨d,h⟩
theorem aHt (u:Nat):Lib.itoa (u:Int)=Lib.decDigits u:=by
 unfold Lib.itoa
 rw [if_neg (by omega)]
 simp
theorem yE (u:Nat) (h:u<=9223372036854775807):(Lib.decDigits u).length<=21:=by
 rw [<- aHt]
 exact Lib.itoa_length_le (u:Int) (by omega) (by omega)
theorem eT (n:Int) (h:dW .i64 n):(Lib.itoa n).length<=21:=by
 simp only [dW] at h
 exact Lib.itoa_length_le n (by omega) (by omega)
theorem aK9:∀ (u:Nat),u<=9223372036854775807->Fn prog 89 [.int .i64 (u:Int)] (fun rs=>rs=[.str (Lib.decDigits u)]):=by
 intro u
 induction u using bJ with
 | _ u ih =>
  intro hu
  have h0:decide ((u:Int) < 0)=false:=decide_eq_false (by omega)
  refine cW aOA [] ?_
  dsimp only [aOA,cT,c7]
  try simp only [h0,↓wA,↓wC,wB,cL,cK,bP,bQ,bR,reduceIte,reduceCtorEq,aA,bT]
  by_cases h:u < 10
  ·have hd:decide ((u:Int) < 10)=true:=decide_eq_true (by omega)
   have hp:(0:Int)<=(u:Int):=by omega
   try simp only [hd,↓wA,↓wC,wB,cL,cK,bP,bQ,bR,reduceIte,reduceCtorEq,aA,bT]
   refine cP (by simp only [dW]; omega) ?_
   try simp only [hd,hp,↓wA,↓wC,wB,cL,cK,bP,bQ,bR,reduceIte,reduceCtorEq,aA,bT]
   refine cQ ⟨by omega,by omega⟩ ?_
   rw [show ((u:Int) + 1).toNat=u + 1 by omega,aB,aEh u h,tK h]
  ·have hd:decide ((u:Int) < 10)=false:=decide_eq_false (by omega)
   have hq:((u:Int)).tdiv 10=((u / 10:Nat):Int):=by rw [aX (by omega)]; omega
   have hr:((u:Int)).tmod 10=((u % 10:Nat):Int):=by rw [aN (by omega)]; omega
   try simp only [hd,hq,hr,↓wA,↓wC,wB,cL,cK,bP,bQ,bR,reduceIte,reduceCtorEq,aA,bT]
   refine cQ (by decide) ?_
   refine cP (by simp only [dW]; omega) ?_
   refine cM (ih (u / 10) (by omega) (by omega)) rfl rfl ?_
   try simp only [hr,↓wA,↓wC,wB,cL,cK,bP,bQ,bR,reduceIte,reduceCtorEq,aA,bT]
   refine cQ (by decide) ?_
   refine cQ (by decide) ?_
   refine cP (by simp only [dW]; omega) ?_
   have hp:(0:Int)<=((u % 10:Nat):Int):=by omega
   try simp only [hp,↓wA,↓wC,wB,cL,cK,bP,bQ,bR,reduceIte,reduceCtorEq,aA,bT]
   refine cQ ⟨by omega,by omega⟩ ?_
   rw [show (((u % 10:Nat):Int) + 1).toNat=u % 10 + 1 by omega,aB,aEh (u % 10) (by omega)]
   try simp only [↓wA,↓wC,wB,cL,cK,bP,bQ,bR,reduceIte,reduceCtorEq,aA,bT]
   refine cQ (by have:=yE (u / 10) (by omega); omega) ?_
   rw [uR h]
theorem fR (n:Int) (h0:0<=n) (h:dW .i64 n):Fn prog 89 [.int .i64 n] (fun rs=>rs=[.str (Lib.itoa n)]):=by
 obtain ⟨u,rfl⟩:=bA h0
 rw [aHt]
 exact aK9 u (by simp only [dW] at h; omega)
theorem kU (s:List UInt8) (hl:s.length<=maxLen):Fn prog 160 [.str s] (fun rs=>rs=[.int .i64 (ck s)]):=by
 rw [eD] at hl
 refine cW aRi [] ?_
 dsimp only [aRi,cT,c7]
 simp only [↓wA,↓wC,wB,cL,cK,bP,bQ,bR,reduceIte,reduceCtorEq,aA,bT]
 refine d5 (fun i:Nat=>⟨[(0,.d (.str s)),(3,.d (.int .i64 (ck (s.take i)))),(6,.d (.int .i64 s.length)),(7,.d (.int .i64 i))],[]⟩)
  (fun i=>i<=s.length) (fun i=>s.length - i) 0 (cU [] rfl ⟨⟨rfl,rfl⟩,⟨rfl,rfl⟩,⟨rfl,rfl⟩,⟨rfl,rfl⟩,trivial⟩) (aP _) ?_
 rintro i hi
 by_cases hlt:i < s.length
 ·obtain ⟨b,hb⟩:=dQ hlt
  have hd:decide ((i:Int) < (s.length:Int))=true:=decide_eq_true (by omega)
  have h0:(0:Int)<=(i:Int):=by omega
  have hbl:(b.toNat:Int) < 256:=by have:=b.toNat_lt; omega
  have hck:=aDb (s.take i)
  have hne:decide ((999979:Int)=0)=false:=by decide
  have hstep:ck (s.take (i + 1))=(41 * ck (s.take i) + b.toNat + 1) % 999979:=by
   have hi:=cV hb
   rw [aG hi]
   have:s[i]=b:=by rw [List.getElem?_eq_getElem hi] at hb; injection hb
   unfold ck
   rw [bG,this]; rfl
  have htm:(41 * ck (s.take i) + b.toNat + 1).tmod 999979=ck (s.take (i + 1)):=by rw [hstep,aN (by omega)]
  have h99:(999979:Int)≠0:=by decide
  repeat' (first|(simp only [hd,h0,hb,aB,cJ,htm,h99,ne_eq,not_false_eq_true,↓wA,↓wC,wB,cL,cK,bP,bQ,bR,reduceIte,reduceCtorEq,aA,bT])|(refine cQ (by decide) ?_)|(refine cP (by simp only [dW]; omega) ?_)|((first|apply cG|apply cH|apply cF)<;>intro h<;>try simp only [h]))
  all_goals exact ⟨i + 1,cU [] rfl ⟨⟨rfl,rfl⟩,⟨rfl,rfl⟩,⟨rfl,rfl⟩,⟨rfl,rfl⟩,trivial⟩,by omega,by omega⟩
 ·have hd:decide ((i:Int) < (s.length:Int))=false:=decide_eq_false (by omega)
  simp only [hd,↓wA,↓wC,wB,cL,cK,bP,bQ,bR,reduceIte,reduceCtorEq,aA,bT]
  rw [aI (by omega)]
theorem yJ (s:List UInt8) (hl:s.length<=maxLen):Fn prog 130 [.str s] (fun rs=>rs=[.int .i64 (ck s)]):=by
 rw [eD] at hl
 refine cW aQA [] ?_
 dsimp only [aQA,cT,c7]
 simp only [↓wA,↓wC,wB,cL,cK,bP,bQ,bR,reduceIte,reduceCtorEq,aA,bT]
 refine d5 (fun i:Nat=>⟨[(0,.d (.str s)),(3,.d (.int .i64 (ck (s.take i)))),(4,.d (.int .i64 i))],[]⟩)
  (fun i=>i<=s.length) (fun i=>s.length - i) 0 (cU [] rfl ⟨⟨rfl,rfl⟩,⟨rfl,rfl⟩,⟨rfl,rfl⟩,trivial⟩) (aP _) ?_
 rintro i hi
 by_cases hlt:i < s.length
 ·obtain ⟨b,hb⟩:=dQ hlt
  have hd:decide ((i:Int) < (s.length:Int))=true:=decide_eq_true (by omega)
  have h0:(0:Int)<=(i:Int):=by omega
  have hbl:(b.toNat:Int) < 256:=by have:=b.toNat_lt; omega
  have hck:=aDb (s.take i)
  have hstep:ck (s.take (i + 1))=(41 * ck (s.take i) + b.toNat + 1) % 999979:=by
   have hi:=cV hb
   rw [aG hi]
   have:s[i]=b:=by rw [List.getElem?_eq_getElem hi] at hb; injection hb
   unfold ck
   rw [bG,this]; rfl
  have htm:(41 * ck (s.take i) + b.toNat + 1).tmod 999979=ck (s.take (i + 1)):=by rw [hstep,aN (by omega)]
  have h99:(999979:Int)≠0:=by decide
  repeat' (first|(simp only [hd,h0,hb,aB,cJ,htm,h99,ne_eq,not_false_eq_true,↓wA,↓wC,wB,cL,cK,bP,bQ,bR,reduceIte,reduceCtorEq,aA,bT])|(refine cQ (by decide) ?_)|(refine cP (by simp only [dW]; omega) ?_)|((first|apply cG|apply cH|apply cF)<;>intro h<;>try simp only [h]))
  all_goals exact ⟨i + 1,cU [] rfl ⟨⟨rfl,rfl⟩,⟨rfl,rfl⟩,⟨rfl,rfl⟩,trivial⟩,by omega,by omega⟩
 ·have hd:decide ((i:Int) < (s.length:Int))=false:=decide_eq_false (by omega)
  simp only [hd,↓wA,↓wC,wB,cL,cK,bP,bQ,bR,reduceIte,reduceCtorEq,aA,bT]
  rw [aI (by omega)]
theorem oN (s:List UInt8):dW .i64 (ck s):=by
 have:=aDb s
 simp only [dW]; omega
theorem aCu (s:List UInt8):s ++ [35] ++ Lib.itoa (ck s)=jA s:=by simp [jA]
theorem aEf (s:List UInt8) (hl:s.length<=4000):Fn prog 97 [.str s] (fun rs=>rs=[.str (jA s)]):=by
 have hm:s.length<=maxLen:=by rw [eD]; omega
 have hi:=eT (ck s) (oN s)
 refine cW aUO [] ?_
 dsimp only [aUO,cT,c7]
 repeat' (first|(simp only [↓wA,↓wC,wB,cL,cK,bP,bQ,bR,reduceIte,reduceCtorEq,aA,bT])|(refine cI (yJ s hm) rfl rfl ?_)|(refine cM (yJ s hm) rfl rfl ?_)|(refine cI (fR (ck s) (aDb s).1 (oN s)) rfl rfl ?_)|(refine cM (fR (ck s) (aDb s).1 (oN s)) rfl rfl ?_)|(refine cQ (by (try simp only [aC,aH,aS]); omega) ?_)|((first|apply cG|apply cH|apply cF)<;>intro h<;>try simp only [h]))
 all_goals simp [jA]
theorem yR (s:List UInt8) (hl:s.length<=3000) (hs:(35:UInt8) ∉ s):Fn prog 116 [.str s] (fun rs=>rs=[.str (jA s),.bool true]):=by
 have hm:s.length<=maxLen:=by rw [eD]; omega
 have hi:=eT (ck s) (oN s)
 have hd:decide ((s.length:Int) > 4000)=false:=decide_eq_false (by omega)
 have hd':decide ((4000:Int) < (s.length:Int))=false:=decide_eq_false (by omega)
 have hc:s.contains 35=false:=by
  cases h:s.contains 35 with
  | false=>rfl
  | true=>exact absurd (aF.1 h) hs
 have hl2:(jA s).length<=4000:=by
  simp only [jA,aC,aH]; omega
 have hd2:decide (((jA s).length:Int) > 4000)=false:=decide_eq_false (by omega)
 have hd2':decide ((4000:Int) < ((jA s).length:Int))=false:=decide_eq_false (by omega)
 have hd3:decide ((4000:Int) < ((s.length + ((Lib.itoa (ck s)).length + 1):Nat):Int))=false:=decide_eq_false (by omega)
 refine cW aAW [] ?_
 dsimp only [aAW,cT,c7]
 repeat' (first|(simp only [hd,hd',hc,aCu,hd2,hd2',hd3,↓wA,↓wC,wB,cL,cK,bP,bQ,bR,reduceIte,reduceCtorEq,aA,bT])|(refine cI (jU s 35) rfl rfl ?_)|(refine cM (jU s 35) rfl rfl ?_)|(refine cI (kU s hm) rfl rfl ?_)|(refine cM (kU s hm) rfl rfl ?_)|(refine cI (fG (ck s) (oN s)) rfl rfl ?_)|(refine cM (fG (ck s) (oN s)) rfl rfl ?_)|(refine cQ (by (try simp only [aC,aH,aS]); omega) ?_)|((first|apply cG|apply cH|apply cF)<;>intro h<;>try simp only [h]))
 all_goals first|rfl|(simp [jA])
theorem aJN (k:Int) (c r:List UInt8):Lib.itoa k ++ [32] ++ c ++ [64] ++ r=body k c r:=by simp [body]
theorem x8 {k:Int} {c r:List UInt8} (hk:dW .i64 k) (h:gG c r=true):(body k c r).length<=400:=by
 have:=eT k hk
 obtain ⟨h1,h2,h3,_⟩:=mV h
 simp only [body,aC,aH]; omega
theorem oF {k:Int} {c r:List UInt8} (hk:dW .i64 k) (h:gG c r=true):(mJ k c r).length<=430:=by
 have h1:=x8 hk h
 have:=eT (ck (body k c r)) (oN _)
 simp only [mJ,jA,aC,aH]; omega
theorem aCZ (k:Int) (c r:List UInt8) (h0:0<=k) (hk:dW .i64 k) (h:gG c r=true):Fn prog 61 [.int .i64 k,nD c r] (fun rs=>rs=[.str (mJ k c r ++ [10])]):=by
 have hi:=eT k hk
 obtain ⟨h1,h2,h3,_⟩:=mV h
 have hb:=x8 hk h
 have hl:=oF hk h
 unfold mJ at hl
 refine cW aUx [] ?_
 dsimp only [aUx,cT,c7]
 simp only [nD]
 repeat' (first|(simp only [aJN,↓wA,↓wC,wB,cL,cK,bP,bQ,bR,reduceIte,reduceCtorEq,aA,bT])|(refine cI (fR k h0 hk) rfl rfl ?_)|(refine cM (fR k h0 hk) rfl rfl ?_)|(refine cI (aEf (body k c r) (by omega)) rfl rfl ?_)|(refine cM (aEf (body k c r) (by omega)) rfl rfl ?_)|(refine cQ (by (try simp only [aC,aH,aS]); omega) ?_)|((first|apply cG|apply cH|apply cF)<;>intro h<;>try simp only [h]))
 all_goals rfl
def aIw (k:Int) (c r:List UInt8):List D:=if dC k 0 59=true/\gG c r=true then [.str (mJ k c r ++ [10]),.bool true] else [.str [],.bool false]
theorem aIT {k:Int} (h:dC k 0 59=true):0<=k/\dW .i64 k:=by
 simp only [dC,aU,decide_eq_true_eq] at h
 simp only [dW]; omega
theorem aDN (k:Int) (c r:List UInt8) (hc:c.length<=maxLen) (hr:r.length<=maxLen):Fn prog 75 [.int .i64 k,nD c r] (fun rs=>rs=aIw k c r):=by
 have hg:=nP c r hc hr
 refine cW aVd [] ?_
 dsimp only [aVd,cT,c7]
 cases h1:dC k 0 59 with
 | false =>
  have hw:=e9 k 0 59
  rw [h1] at hw
  simp only [nD] at hg ⊢
  repeat' (first|(simp only [↓wA,↓wC,wB,cL,cK,bP,bQ,bR,reduceIte,reduceCtorEq,aA,bT])|(refine cI hw rfl rfl ?_)|(refine cI hg rfl rfl ?_)|((first|apply cG|apply cH|apply cF)<;>intro h<;>try simp only [h]))
  all_goals simp [aIw,h1]
 | true =>
  have hw:=e9 k 0 59
  rw [h1] at hw
  cases h2:gG c r with
  | false =>
   rw [h2] at hg
   simp only [nD] at hg ⊢
   repeat' (first|(simp only [↓wA,↓wC,wB,cL,cK,bP,bQ,bR,reduceIte,reduceCtorEq,aA,bT])|(refine cI hw rfl rfl ?_)|(refine cI hg rfl rfl ?_)|((first|apply cG|apply cH|apply cF)<;>intro h<;>try simp only [h]))
   all_goals simp [aIw,h1,h2]
  | true =>
   rw [h2] at hg
   obtain ⟨h0,hk⟩:=aIT h1
   have hi:=eT k hk
   obtain ⟨h3,h4,h5,_⟩:=mV h2
   have hb:=x8 hk h2
   have hl:=oF hk h2
   unfold mJ at hl
   have ha:=yR (body k c r) (by omega) (aD3 h2)
   simp only [nD] at hg ⊢
   repeat' (first|(simp only [aJN,↓wA,↓wC,wB,cL,cK,bP,bQ,bR,reduceIte,reduceCtorEq,aA,bT])|(refine cI hw rfl rfl ?_)|(refine cI hg rfl rfl ?_)|(refine cM (fG k hk) rfl rfl ?_)|(refine cM ha rfl rfl ?_)|(refine cQ (by (try simp only [aC,aH,aS]); omega) ?_)|((first|apply cG|apply cH|apply cF)<;>intro h<;>try simp only [h]))
   all_goals simp [aIw,h1,h2,mJ]
end Go.Pe.Tryz
namespace Go.Pe.Tryz
theorem index_one (x:UInt8):∀ s:List UInt8,(x∈s->Lib.index s [x]=((cZ x s).length:Int))/\(x ∉ s->Lib.index s [x]=-1)
 | []=>⟨fun h=>(by cases h),fun _=>rfl⟩
 | b :: s=>by
  obtain ⟨ih1,ih2⟩:=index_one x s
  by_cases e:b=x
  ·subst e
   refine ⟨fun _=>?_,fun h=>absurd (List.mem_cons_self ..) h⟩
   have hp:([b]:List UInt8).isPrefixOf (b :: s)=true:=by simp [bL]
   rw [Lib.index,if_pos hp]
   simp [cZ]
  ·have hp:([x]:List UInt8).isPrefixOf (b :: s)=false:=by
    simp only [bL,Bool.and_eq_false_iff,beq_eq_false_iff_ne]
    exact .inl fun h=>e h.symm
   have hb:(b != x)=true:=by simpa [bne_iff_ne] using e
   refine ⟨fun h=>?_,fun h=>?_⟩
   ·have hm:x∈s:=by
     rcases aL.1 h with h|h
     ·exact absurd h.symm e
     ·exact h
    have h1:((Lib.index s [x]) == -1)=false:=by rw [ih1 hm,beq_eq_false_iff_ne]; omega
    rw [Lib.index,hp,h1,ih1 hm]
    simp [cZ,aQ,hb]
   ·have hm:x ∉ s:=fun hm=>h (List.mem_cons_of_mem _ hm)
    have h1:((Lib.index s [x]) == -1)=true:=by rw [ih2 hm]; rfl
    rw [Lib.index,hp,h1]
    rfl
theorem aOk (x:UInt8) (s:List UInt8):Lib.cut s [x]=(cZ x s,after x s,s.contains x):=by
 obtain ⟨h1,h2⟩:=index_one x s
 unfold Lib.cut
 by_cases h:x∈s
 ·rw [h1 h,if_pos (by omega)]
  refine Prod.ext ?_ (Prod.ext ?_ ?_)
  ·show s.take ((cZ x s).length:Int).toNat=cZ x s
   rw [aB,<-aHc]
  ·show s.drop (((cZ x s).length:Int).toNat + [x].length)=after x s
   rw [aB,aD,<-w9 h]
  ·exact (aF.2 h).symm
 ·rw [h2 h,if_neg (by omega)]
  refine Prod.ext (oB h).symm (Prod.ext (aBA h).symm ?_)
  cases hc:s.contains x with
  | false=>rfl
  | true=>exact absurd (aF.1 hc) h
def zE (x:UInt8) (s:List UInt8):Nat->List (List UInt8)×Nat
 | 0=>([],0)
 | i + 1=>match s[i]? with
  | some c=>if c=x then ((zE x s i).1 ++ [(s.take i).drop (zE x s i).2],i + 1) else zE x s i
  | none=>zE x s i
def parts (x:UInt8) (s:List UInt8):List (List UInt8):=(zE x s s.length).1 ++ [s.drop (zE x s s.length).2]
theorem zT {x c:UInt8} {s:List UInt8} {i:Nat} (h:s[i]?=some c):zE x s (i + 1)=if c=x then ((zE x s i).1 ++ [(s.take i).drop (zE x s i).2],i + 1) else zE x s i:=by
 simp only [zE,h]
theorem aFy (x:UInt8) (s:List UInt8):∀ i,(zE x s i).2<=i/\(zE x s i).1.length<=i
 | 0=>by simp [zE]
 | i + 1=>by
  have ih:=aFy x s i
  simp only [zE]
  split
  ·split
   ·simp; omega
   ·omega
  ·omega
theorem xV (x:UInt8) (s:List UInt8):∀ i,i<=s.length->((zE x s i).1=[]/\(zE x s i).2=0/\x ∉ s.take i)\/((zE x s i).1[0]?=some (cZ x s)/\x∈s)
 | 0,_=>.inl ⟨rfl,rfl,by simp⟩
 | i + 1,h=>by
  have hi:i < s.length:=h
  have hc:s[i]?=some s[i]:=List.getElem?_eq_getElem hi
  rw [zT hc]
  have hsp:s=s.take i ++ s[i] :: s.drop (i + 1):=by
   rw [<- aY hi,List.take_append_drop]
  have htk:s.take (i + 1)=s.take i ++ [s[i]]:=by rw [aG hi]
  rcases xV x s i (by omega) with ⟨h1,h2,h3⟩|⟨h1,h2⟩
  ·split
   ·rename_i e
    right
    refine ⟨?_,e ▸ List.getElem_mem hi⟩
    rw [h1,h2]
    have:cZ x s=s.take i:=by
     have h4:=pJ (t:=s.drop (i + 1)) h3
     rw [<- e,<-hsp] at h4
     rw [<- e]; exact h4
    simp [this]
   ·rename_i e
    left
    refine ⟨h1,h2,?_⟩
    rw [htk,aV,aR]
    rintro (h|h)
    ·exact h3 h
    ·exact e h.symm
  ·right
   split
   ·refine ⟨?_,h2⟩
    rw [List.getElem?_append_left (cV h1)]; exact h1
   ·exact ⟨h1,h2⟩
theorem sD (x:UInt8) (s:List UInt8):(parts x s)[0]?=some (cZ x s):=by
 unfold parts
 rcases xV x s s.length (bM _) with ⟨h1,h2,h3⟩|⟨h1,h2⟩
 ·rw [a6] at h3
  rw [h1,h2,oB h3]; rfl
 ·rw [List.getElem?_append_left (cV h1)]; exact h1
theorem aDS (x:UInt8) (s:List UInt8):(parts x s).length < 2↔x ∉ s:=by
 unfold parts
 rcases xV x s s.length (bM _) with ⟨h1,h2,h3⟩|⟨h1,h2⟩
 ·rw [a6] at h3
  rw [h1]
  simp [h3]
 ·have:=cV h1
  simp only [aC,aD]
  constructor
  ·intro h; omega
  ·intro h; exact absurd h2 h
theorem aDY (x:UInt8) (s:List UInt8):(parts x s).length<=s.length + 1:=by
 unfold parts
 have:=(aFy x s s.length).2
 simp; omega
theorem aCv {k:Int} {c r:List UInt8} (h:gG c r=true):jA (cZ 35 (mJ k c r))=mJ k c r/\cZ 35 (mJ k c r)=body k c r/\after 32 (body k c r)=c ++ 64 :: r/\cZ 64 (c ++ 64 :: r)=c/\after 64 (c ++ 64 :: r)=r:=by
 have h64:=(mV h).2.2.2.2.2
 have h32:(32:UInt8) ∉ Lib.itoa k:=aG6 k 32 (by decide) (by decide)
 refine ⟨by rw [uX h]; rfl,uX h,?_,pJ h64,vD h64⟩
 unfold body
 exact vD h32
theorem aQq {k:Int} {L:List UInt8} (h:rd k L=none) (c r:List UInt8) (hok:gG c r=true):¬ mJ k c r=L:=fun e=>by
 rw [aB5.2 ⟨hok,e⟩] at h
 cases h
theorem aBy {n:Nat} {k:Int} {s:List UInt8} {e:List UInt8×List UInt8} (lB:(10:UInt8)∈s) (h:rd k (cZ 10 s)=some e):gP (n + 1) k s=(e :: (gP n (k + 1) (after 10 s)).1,(cZ 10 s).length + 1 + (gP n (k + 1) (after 10 s)).2):=by
 simp only [gP,lB,if_true,h]
theorem aCo {n:Nat} {k:Int} {s:List UInt8} (h:(10:UInt8) ∉ s):gP n k s=([],0):=by
 cases n with
 | zero=>rfl
 | succ n=>simp only [gP,h,if_false]
theorem aDF {n:Nat} {k:Int} {s:List UInt8} (h:rd k (cZ 10 s)=none):gP n k s=([],0):=by
 cases n with
 | zero=>rfl
 | succ n=>simp only [gP,h]; split<;>rfl
theorem aAR {B:Nat} (hB:∀ (k:Int) (c r:List UInt8),0<=k->k<=60->gG c r=true->(mJ k c r).length<=B):∀ (n:Nat) (k:Int) (s:List UInt8),0<=k->k + n<=60->(gP n k s).2<=(B + 1) * n
 | 0,_,_,_,_=>by simp [gP]
 | n + 1,k,s,h0,h1=>by
  by_cases lB:(10:UInt8)∈s
  ·cases hr:rd k (cZ 10 s) with
   | none=>rw [aDF hr]; simp
   | some d =>
    rw [aBy lB hr]
    obtain ⟨hok,hl⟩:=aB5.1 hr
    have:=hB k d.1 d.2 h0 (by omega) hok
    rw [hl] at this
    have ih:=aAR hB n (k + 1) (after 10 s) (by omega) (by omega)
    simp only [Nat.mul_succ]
    omega
  ·rw [aCo lB]; simp
def vfy (s:List UInt8):Bool:=decide ((cZ 35 s).length<=4000/\(jA (cZ 35 s)).length<=4000/\jA (cZ 35 s)=s)
def aGU (L:List UInt8):List UInt8:=after 32 (if vfy L=true then cZ 35 L else [])
def xB (L:List UInt8):List UInt8×List UInt8:=(cZ 64 (aGU L),after 64 (aGU L))
theorem aHb (x:UInt8) (s:List UInt8):(after x s).length<=s.length:=by
 unfold after
 have:=(List.dropWhile_sublist (p:=(· != x)) (l:=s)).length_le
 simp only [aM]; omega
theorem aSR (L:List UInt8):(aGU L).length<=L.length/\(xB L).1.length<=L.length/\(xB L).2.length<=L.length:=by
 have h1:(aGU L).length<=L.length:=by
  unfold aGU
  split
  ·exact bD (aHb 32 _) (mP 35 L)
  ·simp [after]
 exact ⟨h1,bD (mP 64 _) h1,bD (aHb 64 _) h1⟩
theorem aTo {k:Int} {L:List UInt8} (hb:∀ c r:List UInt8,gG c r=true->(body k c r).length<=4000/\(mJ k c r).length<=4000) :
  rd k L=if gG (xB L).1 (xB L).2=true/\mJ k (xB L).1 (xB L).2=L then some (xB L) else none:=by
 cases h:rd k L with
 | none =>
  rw [if_neg]
  rintro ⟨h1,h2⟩
  exact aQq h _ _ h1 h2
 | some e =>
  obtain ⟨c,r⟩:=e
  obtain ⟨h1,h2⟩:=aB5.1 h
  obtain ⟨p1,p2,p3,p4,p5⟩:=aCv (k:=k) h1
  rw [h2] at p1 p2
  obtain ⟨b1,b2⟩:=hb c r h1
  have hv:vfy L=true:=decide_eq_true ⟨by rw [p2]; exact b1,by rw [p1,<-h2]; exact b2,p1⟩
  have hn:xB L=(c,r):=by
   unfold xB aGU
   rw [if_pos hv,p2,p3,p4,p5]
  rw [hn,if_pos ⟨h1,h2⟩]
def nC (k:Int) (L:List UInt8):List UInt8:=(cZ 35 L).drop ((Lib.itoa k).length + 1)
def rdv (k:Int) (L:List UInt8):(List UInt8×List UInt8)×Bool :=
 if (cZ 35 L).length < (Lib.itoa k).length + 1\/(cZ 35 L).take ((Lib.itoa k).length + 1)≠Lib.itoa k ++ [32] then (([],[]),false)
 else if (64:UInt8) ∉ nC k L then (([],[]),false)
 else ((cZ 64 (nC k L),after 64 (nC k L)),gG (cZ 64 (nC k L)) (after 64 (nC k L)) && decide (mJ k (cZ 64 (nC k L)) (after 64 (nC k L))=L))
theorem aSF (k:Int) (L:List UInt8):rd k L=if (rdv k L).2=true then some (rdv k L).1 else none:=by
 by_cases h1:(cZ 35 L).length < (Lib.itoa k).length + 1\/(cZ 35 L).take ((Lib.itoa k).length + 1)≠Lib.itoa k ++ [32]
 ·unfold rdv
  rw [if_pos h1]
  cases h:rd k L with
  | none=>rfl
  | some e =>
   obtain ⟨c,r⟩:=e
   obtain ⟨h2,h3⟩:=aB5.1 h
   have hp:=(aCv (k:=k) h2).2.1
   rw [h3] at hp
   exfalso
   rw [hp] at h1
   rcases h1 with h1|h1
   ·simp [body] at h1
   ·apply h1
    unfold body
    rw [List.take_append,aI (by omega),show (Lib.itoa k).length + 1 - (Lib.itoa k).length=1 by omega]; rfl
 ·by_cases h4:(64:UInt8) ∉ nC k L
  ·unfold rdv
   rw [if_neg h1,if_pos h4]
   cases h:rd k L with
   | none=>rfl
   | some e =>
    obtain ⟨c,r⟩:=e
    obtain ⟨h2,h3⟩:=aB5.1 h
    have hp:=(aCv (k:=k) h2).2.1
    rw [h3] at hp
    exfalso
    apply h4
    unfold nC
    rw [hp,aD4]
    simp
  ·unfold rdv
   rw [if_neg h1,if_neg h4]
   unfold rd
   show (if gG (cZ 64 (nC k L)) (after 64 (nC k L))=true/\mJ k (cZ 64 (nC k L)) (after 64 (nC k L))=L then _ else _)=_
   by_cases h5:gG (cZ 64 (nC k L)) (after 64 (nC k L))=true
   ·by_cases h6:mJ k (cZ 64 (nC k L)) (after 64 (nC k L))=L
    ·rw [if_pos ⟨h5,h6⟩]; simp only [h5,h6,decide_true,Bool.and_true,if_true]; rfl
    ·rw [if_neg (fun h=>h6 h.2)]; simp [h6]
   ·rw [if_neg (fun h=>h5 h.1)]; simp [h5]
structure Reads (s:List UInt8) (p:List (List UInt8×List UInt8)×Nat):Prop where
 len:p.1.length<=60
 pos:p.2<=s.length
 all:gP 60 0 s=(p.1 ++ (gP (60 - p.1.length) p.1.length (s.drop p.2)).1,p.2 + (gP (60 - p.1.length) p.1.length (s.drop p.2)).2)
theorem aWS (s:List UInt8):Reads s ([],0):=⟨by simp,by simp,by simp⟩
theorem Reads.stop10 {s p} (h:Reads s p) (lB:(10:UInt8) ∉ s.drop p.2):gP 60 0 s=p:=by
 rw [h.all,aCo lB]; simp
theorem Reads.stopRd {s p} (h:Reads s p) (hr:rd (p.1.length:Int) (cZ 10 (s.drop p.2))=none):gP 60 0 s=p:=by
 rw [h.all,aDF hr]; simp
theorem Reads.stopLen {s p} (h:Reads s p) (hr:¬ p.1.length < 60):gP 60 0 s=p:=by
 rw [h.all,show 60 - p.1.length=0 by have:=h.len; omega]; simp [gP]
theorem Reads.stopEnd {s p} (h:Reads s p) (hr:¬ p.2 < s.length):gP 60 0 s=p:=by
 refine h.stop10 ?_
 rw [List.drop_of_length_le (by omega)]; simp
theorem Reads.next {s p e} (h:Reads s p) (hl:p.1.length < 60) (lB:(10:UInt8)∈s.drop p.2) (hr:rd (p.1.length:Int) (cZ 10 (s.drop p.2))=some e) :
  Reads s (p.1 ++ [e],p.2 + ((cZ 10 (s.drop p.2)).length + 1)):=by
 have hal:=r5 lB
 rw [aM] at hal
 have hp:=h.pos
 refine ⟨by simp; omega,by show p.2 + _<=_; omega,?_⟩
 have hn:60 - p.1.length=(60 - (p.1.length + 1)) + 1:=by omega
 have hd:s.drop (p.2 + ((cZ 10 (s.drop p.2)).length + 1))=after 10 (s.drop p.2):=by rw [w9 lB,bB]
 rw [h.all,hn,aBy lB hr]
 simp only [aC,aD,hd]
 refine Prod.ext ?_ ?_
 ·simp
 ·simp; omega
end Go.Pe.Tryz
namespace Go.Pe.Tryz
open Go.Proofs.Tryz Go.Sort
theorem aFj (s:List UInt8) (x:UInt8) (hl:s.length<=4000000000):Fn prog 120 [.str s,.str [x]] (fun rs=>rs=[.str (cZ x s),.str (after x s),.bool (s.contains x)]) :=
 aIa rfl rfl fun w hF=>by
  obtain ⟨m,hm⟩:=aRn hF
  refine (Go.Proofs.Tryz.strings_Cut ⟨s.toArray⟩ ⟨#[x]⟩ m w (by show s.toArray.size < _; simp; omega) hm).mono ?_
  rintro e w' ⟨rfl,n,rfl⟩
  refine ⟨?_,lL.drewN n⟩
  have hc:Lib.cut s [x]=(cZ x s,after x s,s.contains x):=aOk x s
  simp only [hc]
  rfl
theorem aCw (L:List (List UInt8)) (s:List UInt8):(dl D.str L).app (D.cons (.str s) .nil)=dl D.str (L ++ [s]):=iM (f:=D.str) L s
theorem aLa (L:List (List UInt8)):(dl D.str L).noOwn=true:=rP (fun _=>rfl) L
theorem vQ (L:List (List UInt8)):(dl D.str L).unown=dl D.str L:=uG (fun _=>rfl) L
theorem qC (s:List UInt8) (x:UInt8) (hl:s.length<=1000000000):Fn prog 44 [.str s,.int .u8 (x.toNat:Int)] (fun rs=>rs=[.sl true 1 (dl D.str (parts x s))]):=by
 refine cW aTR [] ?_
 dsimp only [aTR,cT,c7]
 repeat' (first|(simp only [cJ,↓wA,↓wC,wB,cL,cK,bP,bQ,bR,reduceIte,reduceCtorEq,aA,bT])|((first|apply cG|apply cH|apply cF)<;>intro h<;>try simp only [h]))
 refine dR s.length (fun i:Nat=>⟨[(0,.d (.str s)),(1,.d (.int .u8 (x.toNat:Int))),(5,.own 0),(6,.d (.int .i64 (zE x s i).2)),(7,.d (.int .i64 i))],[.val (.sl true 1 (dl D.str (zE x s i).1))]⟩) (fun _=>True) (cU _ rfl ⟨⟨rfl,rfl⟩,⟨rfl,rfl⟩,⟨rfl,rfl⟩,⟨rfl,rfl⟩,⟨rfl,rfl⟩,trivial⟩) trivial ?_ ?_
 ·intro i hi _ hd h0
  obtain ⟨b,hb⟩:=dQ hi
  have hbc:decide ((b.toNat:Int)=(x.toNat:Int))=decide (b=x):=by
   apply decide_eq_decide.2
   constructor
   ·intro h; exact bH.1 (by omega)
   ·intro h; rw [h]
  have hbd:=aFy x s i
  have hup:=zT (x:=x) hb
  by_cases hc:b=x
  ·rw [if_pos hc] at hup
   repeat' (first|(simp only [hd,h0,hb,aB,cJ,hbc,hc,↓wA,↓wC,wB,cL,cK,bP,bQ,bR,reduceIte,reduceCtorEq,aA,bT])|(refine cQ (fun h=>by cases h) ?_)|(with_reducible refine cQ ?_ ?_; focus ((try simp only [cO]); omega))|(refine cP (by simp only [dW]; omega) ?_)|((first|apply cG|apply cH|apply cF)<;>intro h<;>try simp only [h]))
   all_goals (refine ⟨i + 1,?_,by omega,by omega⟩; rw [hup]; (try simp only [aCw]); exact (cU _ rfl ⟨⟨rfl,rfl⟩,⟨rfl,rfl⟩,⟨rfl,rfl⟩,⟨rfl,rfl⟩,⟨rfl,rfl⟩,trivial⟩))
  ·rw [if_neg hc] at hup
   repeat' (first|(simp only [hd,h0,hb,aB,cJ,hbc,hc,↓wA,↓wC,wB,cL,cK,bP,bQ,bR,reduceIte,reduceCtorEq,aA,bT])|(refine cQ (fun h=>by cases h) ?_)|(with_reducible refine cQ ?_ ?_; focus ((try simp only [cO]); omega))|(refine cP (by simp only [dW]; omega) ?_)|((first|apply cG|apply cH|apply cF)<;>intro h<;>try simp only [h]))
   all_goals (refine ⟨i + 1,?_,by omega,by omega⟩; rw [hup]; (try simp only [aCw]); exact (cU _ rfl ⟨⟨rfl,rfl⟩,⟨rfl,rfl⟩,⟨rfl,rfl⟩,⟨rfl,rfl⟩,⟨rfl,rfl⟩,trivial⟩))
 ·intro _ hd
  have hbd:=aFy x s s.length
  repeat' (first|(simp only [hd,cJ,aB,↓wA,↓wC,wB,cL,cK,bP,bQ,bR,reduceIte,reduceCtorEq,aA,bT])|(refine cQ (fun h=>by cases h) ?_)|(with_reducible refine cQ ?_ ?_; focus ((try simp only [cO]); omega))|((first|apply cG|apply cH|apply cF)<;>intro h<;>try simp only [h]))
  all_goals (simp only [aCw]; rfl)
theorem aLy (s:List UInt8):(jA s).length=s.length + 1 + (Lib.itoa (ck s)).length:=by simp [jA]; omega
theorem aDz (s:List UInt8) (hl:s.length<=1000000000) (hs:(35:UInt8) ∉ s):Fn prog 116 [.str s] (fun rs=>rs=if s.length<=4000/\(jA s).length<=4000 then [.str (jA s),.bool true] else [.str [],.bool false]):=by
 have hm:s.length<=maxLen:=by rw [eD]; omega
 have hi:=eT (ck s) (oN s)
 have hsl:=aLy s
 have hc:s.contains 35=false:=by
  cases h:s.contains 35 with
  | false=>rfl
  | true=>exact absurd (aF.1 h) hs
 by_cases h1:s.length<=4000
 ·have hd':decide ((4000:Int) < (s.length:Int))=false:=decide_eq_false (by omega)
  by_cases h2:(jA s).length<=4000
  ·rw [if_pos ⟨h1,h2⟩]
   have hd2':decide ((4000:Int) < ((jA s).length:Int))=false:=decide_eq_false (by omega)
   have hd3:decide ((4000:Int) < ((s.length + ((Lib.itoa (ck s)).length + 1):Nat):Int))=false:=decide_eq_false (by omega)
   refine cW aAW [] ?_
   dsimp only [aAW,cT,c7]
   repeat' (first|(simp only [hd',hc,aCu,hd2',hd3,↓wA,↓wC,wB,cL,cK,bP,bQ,bR,reduceIte,reduceCtorEq,aA,bT])|(refine cI (jU s 35) rfl rfl ?_)|(refine cM (jU s 35) rfl rfl ?_)|(refine cI (kU s hm) rfl rfl ?_)|(refine cM (kU s hm) rfl rfl ?_)|(refine cI (fG (ck s) (oN s)) rfl rfl ?_)|(refine cM (fG (ck s) (oN s)) rfl rfl ?_)|(refine cQ (by (try simp only [aC,aH,aS]); omega) ?_)|((first|apply cG|apply cH|apply cF)<;>intro h<;>try simp only [h]))
   all_goals first|rfl|(simp [jA])
  ·rw [if_neg (fun h=>h2 h.2)]
   have hd2':decide ((4000:Int) < ((jA s).length:Int))=true:=decide_eq_true (by omega)
   have hd3:decide ((4000:Int) < ((s.length + ((Lib.itoa (ck s)).length + 1):Nat):Int))=true:=decide_eq_true (by omega)
   refine cW aAW [] ?_
   dsimp only [aAW,cT,c7]
   repeat' (first|(simp only [hd',hc,aCu,hd2',hd3,↓wA,↓wC,wB,cL,cK,bP,bQ,bR,reduceIte,reduceCtorEq,aA,bT])|(refine cI (jU s 35) rfl rfl ?_)|(refine cM (jU s 35) rfl rfl ?_)|(refine cI (kU s hm) rfl rfl ?_)|(refine cM (kU s hm) rfl rfl ?_)|(refine cI (fG (ck s) (oN s)) rfl rfl ?_)|(refine cM (fG (ck s) (oN s)) rfl rfl ?_)|(refine cQ (by (try simp only [aC,aH,aS]); omega) ?_)|((first|apply cG|apply cH|apply cF)<;>intro h<;>try simp only [h]))
   all_goals first|rfl|(simp [jA])
 ·rw [if_neg (fun h=>h1 h.1)]
  have hd':decide ((4000:Int) < (s.length:Int))=true:=decide_eq_true (by omega)
  refine cW aAW [] ?_
  dsimp only [aAW,cT,c7]
  repeat' (first|(simp only [hd',↓wA,↓wC,wB,cL,cK,bP,bQ,bR,reduceIte,reduceCtorEq,aA,bT])|((first|apply cG|apply cH|apply cF)<;>intro h<;>try simp only [h]))
  all_goals rfl
theorem aKA (s:List UInt8) (hl:s.length<=1000000000):Fn prog 121 [.str s] (fun rs=>rs=if vfy s=true then [.str (cZ 35 s),.bool true] else [.str [],.bool false]):=by
 have hb:=mP 35 s
 have hC:=aFj s 35 (by omega)
 have hA:=aDz (cZ 35 s) (by omega) (aB6 35 s)
 by_cases h1:(cZ 35 s).length<=4000/\(jA (cZ 35 s)).length<=4000
 ·rw [if_pos h1] at hA
  by_cases h2:jA (cZ 35 s)=s
  ·have hv:vfy s=true:=decide_eq_true ⟨h1.1,h1.2,h2⟩
   have hd:decide (jA (cZ 35 s)=s)=true:=decide_eq_true h2
   rw [if_pos hv]
   refine cW aEp [] ?_
   dsimp only [aEp,cT,c7]
   repeat' (first|(simp only [hd,↓wA,↓wC,wB,cL,cK,bP,bQ,bR,reduceIte,reduceCtorEq,aA,bT])|(refine cI (hC) rfl rfl ?_)|(refine cM (hC) rfl rfl ?_)|(refine cI (hA) rfl rfl ?_)|(refine cM (hA) rfl rfl ?_)|((first|apply cG|apply cH|apply cF)<;>intro h<;>try simp only [h]))
   all_goals trace_state
  ·have hv:¬ vfy s=true:=fun h=>h2 (of_decide_eq_true h).2.2
   have hd:decide (jA (cZ 35 s)=s)=false:=decide_eq_false h2
   rw [if_neg hv]
   refine cW aEp [] ?_
   dsimp only [aEp,cT,c7]
   repeat' (first|(simp only [hd,↓wA,↓wC,wB,cL,cK,bP,bQ,bR,reduceIte,reduceCtorEq,aA,bT])|(refine cI (hC) rfl rfl ?_)|(refine cM (hC) rfl rfl ?_)|(refine cI (hA) rfl rfl ?_)|(refine cM (hA) rfl rfl ?_)|((first|apply cG|apply cH|apply cF)<;>intro h<;>try simp only [h]))
   all_goals trace_state
 ·rw [if_neg h1] at hA
  have hv:¬ vfy s=true:=fun h=>h1 ⟨(of_decide_eq_true h).1,(of_decide_eq_true h).2.1⟩
  rw [if_neg hv]
  refine cW aEp [] ?_
  dsimp only [aEp,cT,c7]
  repeat' (first|(simp only [↓wA,↓wC,wB,cL,cK,bP,bQ,bR,reduceIte,reduceCtorEq,aA,bT])|(refine cI (hC) rfl rfl ?_)|(refine cM (hC) rfl rfl ?_)|(refine cI (hA) rfl rfl ?_)|(refine cM (hA) rfl rfl ?_)|((first|apply cG|apply cH|apply cF)<;>intro h<;>try simp only [h]))
  all_goals trace_state
def aAm (e:List UInt8×List UInt8):D:=.st (.cons (.str e.1) (.cons (.str e.2) .nil))
theorem aLW (L:List (List UInt8×List UInt8)) (e:List UInt8×List UInt8):(dl aAm L).app (D.cons (.st (.cons (.str e.1) (.cons (.str e.2) .nil))) .nil)=dl aAm (L ++ [e]):=iM (f:=aAm) L e
theorem vM {n:Nat} (h:n<=60):dW .i64 (n:Int):=by simp only [dW]; omega
theorem aO1 {n:Nat} (hn:n<=60):∀ c r:List UInt8,gG c r=true->(body n c r).length<=4000/\(mJ n c r).length<=4000:=fun c r h=>by
 have h1:=x8 (vM hn) h
 have h2:=oF (vM hn) h
 omega
def rrS (s:List UInt8) (p:List (List UInt8×List UInt8)×Nat):St:=⟨[(0,.d (.str s)),(4,.own 0),(5,.d (.int .i64 p.2))],[.val (.sl true 2 (dl aAm p.1))]⟩
theorem uK (s:List UInt8) (hl:s.length<=100000000):Fn prog 82 [.str s] (fun rs=>rs=[.sl true 2 (dl aAm (gP 60 0 s).1),.int .i64 ((gP 60 0 s).2:Nat)]):=by
 refine cW aVE [] ?_
 dsimp only [aVE,cT,c7]
 repeat' (first|(simp only [cJ,↓wA,↓wC,wB,cL,cK,bP,bQ,bR,reduceIte,reduceCtorEq,aA,bT,xK])|((first|apply cG|apply cH|apply cF)<;>intro h<;>try simp only [h]))
 refine aBD [(4,2)] (rrS s) (Reads s) (fun p=>60 - p.1.length) ([],0) ⟨rfl,trivial⟩ ?_ (aWS s) ?_
 ·exact (cU _ rfl ⟨⟨rfl,rfl⟩,⟨rfl,rfl⟩,⟨rfl,rfl⟩,trivial⟩)
 intro p hp
 have hpl:=hp.pos
 have h60:=hp.len
 have hE:=y6 60 0 s
 unfold rrS
 by_cases hlt:p.1.length < 60
 ·have hd:decide ((p.1.length:Int) < 60)=true:=decide_eq_true (by omega)
  have hdr:(s.drop p.2).length<=100000000:=by rw [aM]; omega
  have hC1:=aFj (s.drop p.2) 10 (by omega)
  by_cases lB:(10:UInt8)∈s.drop p.2
  ·have hc10:(s.drop p.2).contains 10=true:=aF.2 lB
   rw [hc10] at hC1
   have hbl:=mP 10 (s.drop p.2)
   have hV:=aKA (cZ 10 (s.drop p.2)) (by omega)
   have hal:=r5 lB
   have hnl:=aSR (cZ 10 (s.drop p.2))
   have hC2:=aFj (if vfy (cZ 10 (s.drop p.2))=true then cZ 35 (cZ 10 (s.drop p.2)) else []) 32 (by
    split
    ·have:=mP 35 (cZ 10 (s.drop p.2)); omega
    ·simp)
   have hC3:=aFj (aGU (cZ 10 (s.drop p.2))) 64 (by omega)
   have hEn:=aDN (p.1.length:Int) (xB (cZ 10 (s.drop p.2))).1 (xB (cZ 10 (s.drop p.2))).2 (by rw [eD]; omega) (by rw [eD]; omega)
   have hV':Fn prog 121 [.str (cZ 10 (s.drop p.2))] (fun rs=>rs=[.str (if vfy (cZ 10 (s.drop p.2))=true then cZ 35 (cZ 10 (s.drop p.2)) else []),.bool (vfy (cZ 10 (s.drop p.2)))]):=by
    cases hv:vfy (cZ 10 (s.drop p.2))<;>rw [hv] at hV<;>simpa using hV
   have hw:dC (p.1.length:Int) 0 59=true:=by simp [dC]; omega
   have hrd:=aTo (k:=(p.1.length:Int)) (L:=cZ 10 (s.drop p.2)) (aO1 (by omega))
   change Fn prog _ _ (fun rs=>rs=[_,.str (aGU (cZ 10 (s.drop p.2))),_]) at hC2
   change Fn prog _ _ (fun rs=>rs=[.str (xB (cZ 10 (s.drop p.2))).1,.str (xB (cZ 10 (s.drop p.2))).2,_]) at hC3
   have hn:aAm (xB (cZ 10 (s.drop p.2)))=nD (xB (cZ 10 (s.drop p.2))).1 (xB (cZ 10 (s.drop p.2))).2:=rfl
   by_cases hok:gG (xB (cZ 10 (s.drop p.2))).1 (xB (cZ 10 (s.drop p.2))).2=true
   ·have hEq:aIw (p.1.length:Int) (xB (cZ 10 (s.drop p.2))).1 (xB (cZ 10 (s.drop p.2))).2=[.str (mJ (p.1.length:Int) (xB (cZ 10 (s.drop p.2))).1 (xB (cZ 10 (s.drop p.2))).2 ++ [10]),.bool true]:=if_pos ⟨hw,hok⟩
    rw [hEq] at hEn
    have hll:=oF (vM h60) hok
    by_cases hln:mJ (p.1.length:Int) (xB (cZ 10 (s.drop p.2))).1 (xB (cZ 10 (s.drop p.2))).2=cZ 10 (s.drop p.2)
    ·rw [if_pos ⟨hok,hln⟩] at hrd
     have hnx:=hp.next hlt lB hrd
     rw [hln] at hEn
     generalize xB (cZ 10 (s.drop p.2))=e at *
     generalize cZ 10 (s.drop p.2)=L at *
     repeat' (first|(simp only [hd,cO,hrd,cJ,aB,decide_true,↓wA,↓wC,wB,cL,cK,bP,bQ,bR,reduceIte,reduceCtorEq,aA,bT,xK])|(refine cI (hC1) rfl rfl ?_)|(refine cM (hC1) rfl rfl ?_)|(refine cI (hV') rfl rfl ?_)|(refine cM (hV') rfl rfl ?_)|(refine cI (hC2) rfl rfl ?_)|(refine cM (hC2) rfl rfl ?_)|(refine cI (hC3) rfl rfl ?_)|(refine cM (hC3) rfl rfl ?_)|(refine cI (hEn) rfl rfl ?_)|(refine cM (hEn) rfl rfl ?_)|(with_reducible refine cQ ?_ ?_; focus omega)|(with_reducible refine cQ ?_ ?_; focus (simp; done))|(with_reducible refine cQ ?_ ?_; focus (simp only [aC,aD]; omega))|(with_reducible refine cP ?_ ?_; focus (simp only [dW]; omega))|((first|apply cG|apply cH|apply cF)<;>intro h<;>try simp only [h]))
     all_goals
      refine ⟨(p.1 ++ [e],p.2 + (L.length + 1)),?_,hnx,by simp only [aC,aD]; omega⟩
      rw [aLW]
      exact (cU _ rfl ⟨⟨rfl,rfl⟩,⟨rfl,rfl⟩,⟨rfl,rfl⟩,trivial⟩)
    ·rw [if_neg (fun h=>hln h.2)] at hrd
     have hst:=hp.stopRd hrd
     have hne:decide (mJ (p.1.length:Int) (xB (cZ 10 (s.drop p.2))).1 (xB (cZ 10 (s.drop p.2))).2 ++ [10]=cZ 10 (s.drop p.2) ++ [10])=false:=decide_eq_false fun h=>hln (a8 h)
     generalize xB (cZ 10 (s.drop p.2))=e at *
     generalize cZ 10 (s.drop p.2)=L at *
     repeat' (first|(simp only [hd,cO,hrd,cJ,aB,decide_true,hne,↓wA,↓wC,wB,cL,cK,bP,bQ,bR,reduceIte,reduceCtorEq,aA,bT,xK])|(refine cI (hC1) rfl rfl ?_)|(refine cM (hC1) rfl rfl ?_)|(refine cI (hV') rfl rfl ?_)|(refine cM (hV') rfl rfl ?_)|(refine cI (hC2) rfl rfl ?_)|(refine cM (hC2) rfl rfl ?_)|(refine cI (hC3) rfl rfl ?_)|(refine cM (hC3) rfl rfl ?_)|(refine cI (hEn) rfl rfl ?_)|(refine cM (hEn) rfl rfl ?_)|(with_reducible refine cQ ?_ ?_; focus omega)|(with_reducible refine cQ ?_ ?_; focus (simp; done))|(with_reducible refine cQ ?_ ?_; focus (simp only [aC,aD]; omega))|(with_reducible refine cP ?_ ?_; focus (simp only [dW]; omega))|((first|apply cG|apply cH|apply cF)<;>intro h<;>try simp only [h]))
     all_goals (rw [hst])
   ·rw [if_neg (fun h=>hok h.1)] at hrd
    have hst:=hp.stopRd hrd
    have hEq:aIw (p.1.length:Int) (xB (cZ 10 (s.drop p.2))).1 (xB (cZ 10 (s.drop p.2))).2=[.str [],.bool false]:=if_neg (fun h=>hok h.2)
    rw [hEq] at hEn
    generalize xB (cZ 10 (s.drop p.2))=e at *
    generalize cZ 10 (s.drop p.2)=L at *
    repeat' (first|(simp only [hd,cO,hrd,cJ,aB,decide_true,↓wA,↓wC,wB,cL,cK,bP,bQ,bR,reduceIte,reduceCtorEq,aA,bT,xK])|(refine cI (hC1) rfl rfl ?_)|(refine cM (hC1) rfl rfl ?_)|(refine cI (hV') rfl rfl ?_)|(refine cM (hV') rfl rfl ?_)|(refine cI (hC2) rfl rfl ?_)|(refine cM (hC2) rfl rfl ?_)|(refine cI (hC3) rfl rfl ?_)|(refine cM (hC3) rfl rfl ?_)|(refine cI (hEn) rfl rfl ?_)|(refine cM (hEn) rfl rfl ?_)|(with_reducible refine cQ ?_ ?_; focus omega)|(with_reducible refine cQ ?_ ?_; focus (simp; done))|(with_reducible refine cQ ?_ ?_; focus (simp only [aC,aD]; omega))|(with_reducible refine cP ?_ ?_; focus (simp only [dW]; omega))|((first|apply cG|apply cH|apply cF)<;>intro h<;>try simp only [h]))
    all_goals (rw [hst])
  ·have hc10:(s.drop p.2).contains 10=false:=by
    cases h:(s.drop p.2).contains 10 with
    | false=>rfl
    | true=>exact absurd (aF.1 h) lB
   rw [hc10] at hC1
   have hst:=hp.stop10 lB
   repeat' (first|(simp only [hd,cO,cJ,aB,↓wA,↓wC,wB,cL,cK,bP,bQ,bR,reduceIte,reduceCtorEq,aA,bT,xK])|(refine cI (hC1) rfl rfl ?_)|(refine cM (hC1) rfl rfl ?_)|(with_reducible refine cQ ?_ ?_; focus omega)|((first|apply cG|apply cH|apply cF)<;>intro h<;>try simp only [h]))
   all_goals (rw [hst])
 ·have hd:decide ((p.1.length:Int) < 60)=false:=decide_eq_false (by omega)
  have hst:=hp.stopLen hlt
  repeat' (first|(simp only [hd,cO,cJ,aB,↓wA,↓wC,wB,cL,cK,bP,bQ,bR,reduceIte,reduceCtorEq,aA,bT,xK])|((first|apply cG|apply cH|apply cF)<;>intro h<;>try simp only [h]))
  all_goals (rw [hst])
theorem aID (k:Int) (L:List UInt8) (h0:0<=k) (hk:dW .i64 k) (hl:L.length<=100000000):Fn prog 80 [.str L,.int .i64 k] (fun rs=>rs=[aAm (rdv k L).1,.bool (rdv k L).2]):=by
 have hN:=fR k h0 hk
 have hi:=eT k hk
 have hS:=qC L 35 (by omega)
 have hb:=mP 35 L
 have hS2:=qC (nC k L) 64 (by unfold nC; rw [aM]; omega)
 have hp0:=sD 35 L
 have hp1:=sD 64 (nC k L)
 by_cases hA:(cZ 35 L).length < (Lib.itoa k).length + 1
 ·have hv:rdv k L=(([],[]),false):=if_pos (.inl hA)
  rw [hv]
  have hd:decide (((cZ 35 L).length:Int) < (((Lib.itoa k).length + 1:Nat):Int))=true:=decide_eq_true (by omega)
  generalize cZ 35 L=T at *
  refine cW aDr [] ?_
  dsimp only [aDr,cT,c7]
  repeat' (first|(simp only [c6,hp0,hp1,aE,cJ,aB,aJ,hd,↓wA,↓wC,wB,cL,cK,bP,bQ,bR,reduceIte,reduceCtorEq,aA,bT,xK])|(refine cI (hN) rfl rfl ?_)|(refine cM (hN) rfl rfl ?_)|(refine cI (hS) rfl rfl ?_)|(refine cM (hS) rfl rfl ?_)|(with_reducible refine cQ ?_ ?_; focus omega)|(with_reducible refine cQ ?_ ?_; focus (simp only [aC,aD]; omega))|((first|apply cG|apply cH|apply cF)<;>intro h<;>try simp only [h]))
  all_goals rfl
 have hd:decide (((cZ 35 L).length:Int) < (((Lib.itoa k).length + 1:Nat):Int))=false:=decide_eq_false (by omega)
 by_cases hB:(cZ 35 L).take ((Lib.itoa k).length + 1)=Lib.itoa k ++ [32]
 ·have h1:¬ ((cZ 35 L).length < (Lib.itoa k).length + 1\/(cZ 35 L).take ((Lib.itoa k).length + 1)≠Lib.itoa k ++ [32]):=fun h=>h.elim hA fun h=>h hB
  have hd2:decide ((cZ 35 L).take ((Lib.itoa k).length + 1)=Lib.itoa k ++ [32])=true:=decide_eq_true hB
  have hr:(cZ 35 L).drop ((Lib.itoa k).length + 1)=nC k L:=rfl
  have hrl:(nC k L).length<=100000000:=by unfold nC; rw [aM]; omega
  have hb2:=mP 64 (nC k L)
  by_cases h4:(64:UInt8) ∉ nC k L
  ·have hv:rdv k L=(([],[]),false):=by unfold rdv; rw [if_neg h1,if_pos h4]
   rw [hv]
   have hd3:decide (((cZ 64 (nC k L)).length:Int)=((nC k L).length:Int))=true:=decide_eq_true (by rw [oB h4])
   generalize cZ 35 L=T at *
   refine cW aDr [] ?_
   dsimp only [aDr,cT,c7]
   repeat' (first|(simp only [c6,hp0,hp1,aE,cJ,aB,aJ,hd,hd2,hr,hd3,↓wA,↓wC,wB,cL,cK,bP,bQ,bR,reduceIte,reduceCtorEq,aA,bT,xK])|(refine cI (hS2) rfl rfl ?_)|(refine cM (hS2) rfl rfl ?_)|(refine cI (hN) rfl rfl ?_)|(refine cM (hN) rfl rfl ?_)|(refine cI (hS) rfl rfl ?_)|(refine cM (hS) rfl rfl ?_)|(with_reducible refine cQ ?_ ?_; focus omega)|(with_reducible refine cQ ?_ ?_; focus (simp only [aC,aD]; omega))|((first|apply cG|apply cH|apply cF)<;>intro h<;>try simp only [h]))
   all_goals rfl
  ·have hv:rdv k L=((cZ 64 (nC k L),after 64 (nC k L)),gG (cZ 64 (nC k L)) (after 64 (nC k L)) && decide (mJ k (cZ 64 (nC k L)) (after 64 (nC k L))=L)):=by unfold rdv; rw [if_neg h1,if_neg h4]
   rw [hv]
   have h64:(64:UInt8)∈nC k L:=Classical.byContradiction fun h=>h4 h
   have hal:=r5 h64
   have hd3:decide (((cZ 64 (nC k L)).length:Int)=((nC k L).length:Int))=false:=decide_eq_false (by omega)
   have hdr:(nC k L).drop ((cZ 64 (nC k L)).length + 1)=after 64 (nC k L):=(w9 h64).symm
   have hG:=xM (cZ 64 (nC k L)) (after 64 (nC k L)) (by rw [eD]; omega) (by rw [eD]; omega)
   by_cases hok:gG (cZ 64 (nC k L)) (after 64 (nC k L))=true
   ·have hLn:=aCZ k (cZ 64 (nC k L)) (after 64 (nC k L)) h0 hk hok
    rw [hok] at hG ⊢
    have hle:decide (mJ k (cZ 64 (nC k L)) (after 64 (nC k L)) ++ [10]=L ++ [10])=decide (mJ k (cZ 64 (nC k L)) (after 64 (nC k L))=L):=decide_eq_decide.2 ⟨a8,fun h=>by rw [h]⟩
    rw [<- hle]
    have hcc:((cZ 64 (nC k L)).length:Int) + 1=(((cZ 64 (nC k L)).length + 1:Nat):Int):=rfl
    generalize cZ 64 (nC k L)=C at *
    generalize after 64 (nC k L)=R at *
    generalize nC k L=T2 at *
    generalize cZ 35 L=T at *
    refine cW aDr [[1,1,1,1,1,1,1,1,0]] ?_
    dsimp only [aDr,cT,c7]
    repeat' (first|(simp only [c6,hp0,hp1,aE,cJ,aB,aJ,hd,hd2,hr,hd3,hdr,hcc,↓wA,↓wC,wB,cL,cK,bP,bQ,bR,reduceIte,reduceCtorEq,aA,bT,xK])|(refine cI (hS2) rfl rfl ?_)|(refine cM (hS2) rfl rfl ?_)|(refine cI (hG) rfl rfl ?_)|(refine cM (hG) rfl rfl ?_)|(refine cI (hLn) rfl rfl ?_)|(refine cM (hLn) rfl rfl ?_)|(refine dL ?_)|(with_reducible refine cP ?_ ?_; focus (simp only [dW]; omega))|(refine cI (hN) rfl rfl ?_)|(refine cM (hN) rfl rfl ?_)|(refine cI (hS) rfl rfl ?_)|(refine cM (hS) rfl rfl ?_)|(with_reducible refine cQ ?_ ?_; focus omega)|(with_reducible refine cQ ?_ ?_; focus (simp only [aC,aD]; omega))|((first|apply cG|apply cH|apply cF)<;>intro h<;>try simp only [h]))
    refine c8 (gI 3 rfl) ?_
    simp only [D.unown,↓wA,↓wC,wB,cL,cK,bP,bQ,bR,reduceIte,reduceCtorEq,aA,bT,xK]
    repeat' (first|(simp only [c6,hp0,hp1,aE,cJ,aB,aJ,hd,hd2,hr,hd3,hdr,hcc,↓wA,↓wC,wB,cL,cK,bP,bQ,bR,reduceIte,reduceCtorEq,aA,bT,xK])|(refine cI (hS2) rfl rfl ?_)|(refine cM (hS2) rfl rfl ?_)|(refine cI (hG) rfl rfl ?_)|(refine cM (hG) rfl rfl ?_)|(refine cI (hLn) rfl rfl ?_)|(refine cM (hLn) rfl rfl ?_)|(refine dL ?_)|(with_reducible refine cP ?_ ?_; focus (simp only [dW]; omega))|(refine cI (hN) rfl rfl ?_)|(refine cM (hN) rfl rfl ?_)|(refine cI (hS) rfl rfl ?_)|(refine cM (hS) rfl rfl ?_)|(with_reducible refine cQ ?_ ?_; focus omega)|(with_reducible refine cQ ?_ ?_; focus (simp only [aC,aD]; omega))|((first|apply cG|apply cH|apply cF)<;>intro h<;>try simp only [h]))
    all_goals rfl
   ·rw [Bool.not_eq_true] at hok
    rw [hok] at hG ⊢
    have hcc:((cZ 64 (nC k L)).length:Int) + 1=(((cZ 64 (nC k L)).length + 1:Nat):Int):=rfl
    generalize cZ 64 (nC k L)=C at *
    generalize after 64 (nC k L)=R at *
    generalize nC k L=T2 at *
    generalize cZ 35 L=T at *
    refine cW aDr [[1,1,1,1,1,1,1,1,0]] ?_
    dsimp only [aDr,cT,c7]
    repeat' (first|(simp only [c6,hp0,hp1,aE,cJ,aB,aJ,hd,hd2,hr,hd3,hdr,hcc,↓wA,↓wC,wB,cL,cK,bP,bQ,bR,reduceIte,reduceCtorEq,aA,bT,xK])|(refine cI (hS2) rfl rfl ?_)|(refine cM (hS2) rfl rfl ?_)|(refine cI (hG) rfl rfl ?_)|(refine cM (hG) rfl rfl ?_)|(refine dL ?_)|(with_reducible refine cP ?_ ?_; focus (simp only [dW]; omega))|(refine cI (hN) rfl rfl ?_)|(refine cM (hN) rfl rfl ?_)|(refine cI (hS) rfl rfl ?_)|(refine cM (hS) rfl rfl ?_)|(with_reducible refine cQ ?_ ?_; focus omega)|(with_reducible refine cQ ?_ ?_; focus (simp only [aC,aD]; omega))|((first|apply cG|apply cH|apply cF)<;>intro h<;>try simp only [h]))
    refine c8 (gI 3 rfl) ?_
    simp only [D.unown,↓wA,↓wC,wB,cL,cK,bP,bQ,bR,reduceIte,reduceCtorEq,aA,bT,xK]
    repeat' (first|(simp only [c6,hp0,hp1,aE,cJ,aB,aJ,hd,hd2,hr,hd3,hdr,hcc,↓wA,↓wC,wB,cL,cK,bP,bQ,bR,reduceIte,reduceCtorEq,aA,bT,xK])|(refine cI (hS2) rfl rfl ?_)|(refine cM (hS2) rfl rfl ?_)|(refine cI (hG) rfl rfl ?_)|(refine cM (hG) rfl rfl ?_)|(refine dL ?_)|(with_reducible refine cP ?_ ?_; focus (simp only [dW]; omega))|(refine cI (hN) rfl rfl ?_)|(refine cM (hN) rfl rfl ?_)|(refine cI (hS) rfl rfl ?_)|(refine cM (hS) rfl rfl ?_)|(with_reducible refine cQ ?_ ?_; focus omega)|(with_reducible refine cQ ?_ ?_; focus (simp only [aC,aD]; omega))|((first|apply cG|apply cH|apply cF)<;>intro h<;>try simp only [h]))
    all_goals rfl
 ·have hv:rdv k L=(([],[]),false):=if_pos (.inr hB)
  rw [hv]
  have hd2:decide ((cZ 35 L).take ((Lib.itoa k).length + 1)=Lib.itoa k ++ [32])=false:=decide_eq_false hB
  generalize cZ 35 L=T at *
  refine cW aDr [] ?_
  dsimp only [aDr,cT,c7]
  repeat' (first|(simp only [c6,hp0,hp1,aE,cJ,aB,aJ,hd,hd2,↓wA,↓wC,wB,cL,cK,bP,bQ,bR,reduceIte,reduceCtorEq,aA,bT,xK])|(refine cI (hN) rfl rfl ?_)|(refine cM (hN) rfl rfl ?_)|(refine cI (hS) rfl rfl ?_)|(refine cM (hS) rfl rfl ?_)|(with_reducible refine cQ ?_ ?_; focus omega)|(with_reducible refine cQ ?_ ?_; focus (simp only [aC,aD]; omega))|((first|apply cG|apply cH|apply cF)<;>intro h<;>try simp only [h]))
  all_goals rfl
def opS (s:List UInt8) (p:List (List UInt8×List UInt8)×Nat):St:=⟨[(0,.d (.str s)),(4,.own 0),(5,.d (.int .i64 p.2))],[.val (.sl true 2 (dl aAm p.1))]⟩
theorem aCt (s:List UInt8) (hl:s.length<=100000000):Fn prog 47 [.str s] (fun rs=>rs=[.sl true 2 (dl aAm (gP 60 0 s).1),.int .i64 ((gP 60 0 s).2:Nat)]):=by
 refine cW aTX [] ?_
 dsimp only [aTX,cT,c7]
 repeat' (first|(simp only [cJ,↓wA,↓wC,wB,cL,cK,bP,bQ,bR,reduceIte,reduceCtorEq,aA,bT])|((first|apply cG|apply cH|apply cF)<;>intro h<;>try simp only [h]))
 refine d5 (opS s) (Reads s) (fun p=>60 - p.1.length) ([],0) ?_ (aWS s) ?_
 ·exact (cU _ rfl ⟨⟨rfl,rfl⟩,⟨rfl,rfl⟩,⟨rfl,rfl⟩,trivial⟩)
 intro p hp
 have hpl:=hp.pos
 have h60:=hp.len
 have hE:=y6 60 0 s
 unfold opS
 by_cases hend:p.2 < s.length
 ·have hd0:decide ((p.2:Int) < (s.length:Int))=true:=decide_eq_true (by omega)
  by_cases hlt:p.1.length < 60
  ·have hd:decide ((p.1.length:Int) < 60)=true:=decide_eq_true (by omega)
   have hdr:(s.drop p.2).length<=100000000:=by rw [aM]; omega
   have hS:=qC (s.drop p.2) 10 (by omega)
   have hp0:=sD 10 (s.drop p.2)
   have hbl:=mP 10 (s.drop p.2)
   have hR:=aID (p.1.length:Int) (cZ 10 (s.drop p.2)) (by omega) (vM h60) (by omega)
   have hrd:=aSF (p.1.length:Int) (cZ 10 (s.drop p.2))
   have h2:=aDS 10 (s.drop p.2)
   by_cases lB:(10:UInt8)∈s.drop p.2
   ·have hd2:decide (((parts 10 (s.drop p.2)).length:Int) < 2)=false:=decide_eq_false (by
     have h3:¬ (parts 10 (s.drop p.2)).length < 2:=fun h=>h2.1 h lB
     omega)
    have hal:=r5 lB
    rw [aM] at hal
    cases hv:(rdv (p.1.length:Int) (cZ 10 (s.drop p.2))).2 with
    | true =>
     rw [hv] at hR hrd
     simp only [if_true] at hrd
     have hnx:=hp.next hlt lB hrd
     generalize (rdv (p.1.length:Int) (cZ 10 (s.drop p.2))).1=e at *
     generalize cZ 10 (s.drop p.2)=L at *
     simp only [aAm] at hR
     repeat' (first|(simp only [hd0,hd,hd2,hp0,cO,c6,aE,cJ,aB,aJ,↓wA,↓wC,wB,cL,cK,bP,bQ,bR,reduceIte,reduceCtorEq,aA,bT])|(refine cI (hS) rfl rfl ?_)|(refine cM (hS) rfl rfl ?_)|(refine cI (hR) rfl rfl ?_)|(refine cM (hR) rfl rfl ?_)|(with_reducible refine cQ ?_ ?_; focus omega)|(with_reducible refine cQ ?_ ?_; focus (simp; done))|(with_reducible refine cP ?_ ?_; focus (simp only [dW]; omega))|((first|apply cG|apply cH|apply cF)<;>intro h<;>try simp only [h]))
     all_goals
      have hcast:(p.2:Int) + L.length + 1=((p.2 + (L.length + 1):Nat):Int):=by omega
      refine ⟨(p.1 ++ [e],p.2 + (L.length + 1)),?_,hnx,by simp only [aC,aD]; omega⟩
      rw [hcast,aLW]
      exact (cU _ rfl ⟨⟨rfl,rfl⟩,⟨rfl,rfl⟩,⟨rfl,rfl⟩,trivial⟩)
    | false =>
     rw [hv] at hR hrd
     have hst:=hp.stopRd hrd
     generalize (rdv (p.1.length:Int) (cZ 10 (s.drop p.2))).1=e at *
     generalize cZ 10 (s.drop p.2)=L at *
     simp only [aAm] at hR
     repeat' (first|(simp only [hd0,hd,hd2,hp0,cO,c6,aE,cJ,aB,aJ,↓wA,↓wC,wB,cL,cK,bP,bQ,bR,reduceIte,reduceCtorEq,aA,bT])|(refine cI (hS) rfl rfl ?_)|(refine cM (hS) rfl rfl ?_)|(refine cI (hR) rfl rfl ?_)|(refine cM (hR) rfl rfl ?_)|(with_reducible refine cQ ?_ ?_; focus omega)|(with_reducible refine cQ ?_ ?_; focus (simp; done))|((first|apply cG|apply cH|apply cF)<;>intro h<;>try simp only [h]))
     all_goals (rw [hst])
   ·have hd2:decide (((parts 10 (s.drop p.2)).length:Int) < 2)=true:=decide_eq_true (by
     have h3:=h2.2 lB
     omega)
    have hst:=hp.stop10 lB
    generalize rdv (p.1.length:Int) (cZ 10 (s.drop p.2))=e at *
    generalize cZ 10 (s.drop p.2)=L at *
    simp only [aAm] at hR
    repeat' (first|(simp only [hd0,hd,hd2,hp0,cO,c6,aE,cJ,aB,aJ,↓wA,↓wC,wB,cL,cK,bP,bQ,bR,reduceIte,reduceCtorEq,aA,bT])|(refine cI (hS) rfl rfl ?_)|(refine cM (hS) rfl rfl ?_)|(refine cI (hR) rfl rfl ?_)|(refine cM (hR) rfl rfl ?_)|(with_reducible refine cQ ?_ ?_; focus omega)|(with_reducible refine cQ ?_ ?_; focus (simp; done))|((first|apply cG|apply cH|apply cF)<;>intro h<;>try simp only [h]))
    all_goals (rw [hst])
  ·have hd:decide ((p.1.length:Int) < 60)=false:=decide_eq_false (by omega)
   have hst:=hp.stopLen hlt
   repeat' (first|(simp only [hd0,hd,cO,cJ,aB,↓wA,↓wC,wB,cL,cK,bP,bQ,bR,reduceIte,reduceCtorEq,aA,bT])|((first|apply cG|apply cH|apply cF)<;>intro h<;>try simp only [h]))
   all_goals (rw [hst])
 ·have hd0:decide ((p.2:Int) < (s.length:Int))=false:=decide_eq_false (by omega)
  have hst:=hp.stopEnd hend
  repeat' (first|(simp only [hd0,cO,cJ,aB,↓wA,↓wC,wB,cL,cK,bP,bQ,bR,reduceIte,reduceCtorEq,aA,bT])|((first|apply cG|apply cH|apply cF)<;>intro h<;>try simp only [h]))
  all_goals (rw [hst])
def fE (d p:List UInt8) (c:Int):D:=.st (.cons (.str d) (.cons (.str p) (.cons (.int .i64 c) .nil)))
theorem aLK (d p:List UInt8) (c:Int):Fn prog 8 [fE d p c] (fun rs=>rs=[fE d p c]):=by
 refine cW ef8 [] ?_
 dsimp only [ef8,cT,c7]
 simp only [fE]
 repeat' (first|(simp only [↓wA,↓wC,wB,cL,cK,bP,bQ,bR,reduceIte,reduceCtorEq,aA,bT,zM])|((first|apply cG|apply cH|apply cF)<;>intro h<;>try simp only [h]))
theorem aMB (d p:List UInt8) (c:Int):Fn prog 41 [fE d p c,fE d p c] (fun rs=>rs=[.bool true]):=by
 refine cW aUM [] ?_
 dsimp only [aUM,cT,c7]
 simp only [fE]
 repeat' (first|(simp only [decide_true,↓wA,↓wC,wB,cL,cK,bP,bQ,bR,reduceIte,reduceCtorEq,aA,bT,zM])|((first|apply cG|apply cH|apply cF)<;>intro h<;>try simp only [h]))
def lv (d p:List UInt8) (c:Int):Bool:=decide (((gP 60 0 (d ++ p)).2:Int)=((d ++ p).length:Nat)) && decide (((gP 60 0 d).2:Int)=(d.length:Nat)) && decide (c=((gP 60 0 (d ++ p)).1.length:Nat))
def aM1 (d p:List UInt8):List (List UInt8×List UInt8):=(gP 60 0 (d ++ p)).1
theorem aFW {d p:List UInt8} {c:Int} (h:lv d p c=true):d.length + p.length<=30000:=by
 simp only [lv,aU,decide_eq_true_eq] at h
 have hB:=aAR (B:=430) (fun k c r h0 h1 hok=>oF (by simp only [dW]; omega) hok) 60 0 (d ++ p) (by omega) (by omega)
 have:=h.1.1
 rw [aC] at this
 omega
theorem aFl (d p:List UInt8) (c:Int) (hl:d.length + p.length<=100000000):Fn prog 49 [fE d p c] (fun rs=>rs=[.sl true 2 (dl aAm (aM1 d p)),.bool (lv d p c)]):=by
 have hA:=uK (d ++ p) (by rw [aC]; omega)
 have hD:=uK d (by omega)
 refine cW aTS [] ?_
 dsimp only [aTS,cT,c7]
 simp only [fE]
 repeat' (first|(simp only [cO,cJ,↓wA,↓wC,wB,cL,cK,bP,bQ,bR,reduceIte,reduceCtorEq,aA,bT,zM])|(refine cI (hA) rfl rfl ?_)|(refine cM (hA) rfl rfl ?_)|(refine cI (hD) rfl rfl ?_)|(refine cM (hD) rfl rfl ?_)|(with_reducible refine cQ ?_ ?_; focus (simp only [aC]; omega))|(with_reducible refine cQ ?_ ?_; focus omega)|((first|apply cG|apply cH|apply cF)<;>intro h<;>try simp only [h]))
 all_goals (unfold aM1 lv; simp_all [aC])
theorem v7 (d p:List UInt8) (c:Int) (hl:d.length + p.length<=100000000):Fn prog 65 [fE d p c] (fun rs=>rs=[.bool (lv d p c)]):=by
 have hR:=aFl d p c hl
 refine cW aTN [] ?_
 dsimp only [aTN,cT,c7]
 simp only [fE] at hR ⊢
 repeat' (first|(simp only [↓wA,↓wC,wB,cL,cK,bP,bQ,bR,reduceIte,reduceCtorEq,aA,bT,zM])|(refine cI (hR) rfl rfl ?_)|(refine cM (hR) rfl rfl ?_)|((first|apply cG|apply cH|apply cF)<;>intro h<;>try simp only [h]))
theorem aDP (d p:List UInt8) (c:Int) (hl:d.length + p.length<=100000000):Fn prog 23 [fE d p c] (fun rs=>rs=[.bool (lv d p c)]):=by
 have hA:=aCt (d ++ p) (by rw [aC]; omega)
 have hD:=aCt d (by omega)
 refine cW aVz [] ?_
 dsimp only [aVz,cT,c7]
 simp only [fE]
 repeat' (first|(simp only [cO,cJ,↓wA,↓wC,wB,cL,cK,bP,bQ,bR,reduceIte,reduceCtorEq,aA,bT,zM])|(refine cI (hA) rfl rfl ?_)|(refine cM (hA) rfl rfl ?_)|(refine cI (hD) rfl rfl ?_)|(refine cM (hD) rfl rfl ?_)|(with_reducible refine cQ ?_ ?_; focus (simp only [aC]; omega))|(with_reducible refine cQ ?_ ?_; focus omega)|(with_reducible refine cP ?_ ?_; focus (simp only [dW]; omega))|((first|apply cG|apply cH|apply cF)<;>intro h<;>try simp only [h]))
 all_goals
  by_cases hs:d.length + p.length<=30000
  ·first
    |(exfalso; simp only [decide_eq_true_eq] at *; omega)
    |(unfold lv; rw [show ((d ++ p).length:Int)=(d.length:Int) + p.length by simp,show decide (c=((gP 60 0 (d ++ p)).1.length:Int))=decide (((gP 60 0 (d ++ p)).1.length:Int)=c) from decide_eq_decide.2 eq_comm]; simp_all)
  ·have hf:lv d p c=false:=by
    cases hlv:lv d p c with
    | false=>rfl
    | true=>exact absurd (aFW hlv) hs
   first
    |(exfalso; simp only [decide_eq_true_eq,decide_eq_false_iff_not] at *; omega)
    |(rw [hf])
def aJZ (d p:List UInt8) (k:Int) (c r:List UInt8):List D :=
 if lv d p k=true/\gG c r=true then
  if k=60 then [fE d p k,.int .i64 2] else [fE d (p ++ (mJ k c r ++ [10])) (k + 1),.int .i64 0]
 else [fE d p k,.int .i64 1]
theorem aBS {d p:List UInt8} {k:Int} (h:lv d p k=true):0<=k/\k<=60:=by
 have hE:=y6 60 0 (d ++ p)
 simp only [lv,aU,decide_eq_true_eq] at h
 omega
theorem lW (d p:List UInt8) (k:Int) (c r:List UInt8) (hl:d.length + p.length<=1048576) (hc:c.length<=maxLen) (hr:r.length<=maxLen):Fn prog 39 [fE d p k,nD c r] (fun rs=>rs=aJZ d p k c r):=by
 have hV:=v7 d p k (by omega)
 have hI:=nP c r hc hr
 have hE:=aDN k c r hc hr
 unfold aJZ
 cases hv:lv d p k with
 | false =>
  rw [hv] at hV
  refine cW aHj [] ?_
  dsimp only [aHj,cT,c7]
  simp only [fE,nD] at hV ⊢
  repeat' (first|(simp only [↓wA,↓wC,wB,cL,cK,bP,bQ,bR,reduceIte,reduceCtorEq,aA,bT,zM])|(refine cI (hV) rfl rfl ?_)|(refine cM (hV) rfl rfl ?_)|((first|apply cG|apply cH|apply cF)<;>intro h<;>try simp only [h]))
  all_goals simp
 | true =>
  rw [hv] at hV
  have hk:=aBS hv
  cases hok:gG c r with
  | false =>
   rw [hok] at hI
   refine cW aHj [] ?_
   dsimp only [aHj,cT,c7]
   simp only [fE,nD] at hV hI ⊢
   repeat' (first|(simp only [↓wA,↓wC,wB,cL,cK,bP,bQ,bR,reduceIte,reduceCtorEq,aA,bT,zM])|(refine cI (hV) rfl rfl ?_)|(refine cM (hV) rfl rfl ?_)|(refine cI (hI) rfl rfl ?_)|(refine cM (hI) rfl rfl ?_)|((first|apply cG|apply cH|apply cF)<;>intro h<;>try simp only [h]))
   all_goals simp
  | true =>
   rw [hok] at hI
   by_cases h60:k=60
   ·have hd:decide (k=60)=true:=decide_eq_true h60
    refine cW aHj [] ?_
    dsimp only [aHj,cT,c7]
    simp only [fE,nD] at hV hI ⊢
    repeat' (first|(simp only [hd,↓wA,↓wC,wB,cL,cK,bP,bQ,bR,reduceIte,reduceCtorEq,aA,bT,zM])|(refine cI (hV) rfl rfl ?_)|(refine cM (hV) rfl rfl ?_)|(refine cI (hI) rfl rfl ?_)|(refine cM (hI) rfl rfl ?_)|((first|apply cG|apply cH|apply cF)<;>intro h<;>try simp only [h]))
    all_goals simp [h60]
   ·have hd:decide (k=60)=false:=decide_eq_false h60
    have hEq:aIw k c r=[.str (mJ k c r ++ [10]),.bool true]:=if_pos ⟨by simp [dC]; omega,hok⟩
    have hll:=oF (k:=k) (by simp only [dW]; omega) hok
    rw [hEq] at hE
    refine cW aHj [] ?_
    dsimp only [aHj,cT,c7]
    simp only [fE,nD] at hV hI hE ⊢
    repeat' (first|(simp only [hd,cJ,↓wA,↓wC,wB,cL,cK,bP,bQ,bR,reduceIte,reduceCtorEq,aA,bT,zM])|(refine cI (hV) rfl rfl ?_)|(refine cM (hV) rfl rfl ?_)|(refine cI (hI) rfl rfl ?_)|(refine cM (hI) rfl rfl ?_)|(refine cI (hE) rfl rfl ?_)|(refine cM (hE) rfl rfl ?_)|(with_reducible refine cQ ?_ ?_; focus ((try simp only [aC,aD]); omega))|(with_reducible refine cP ?_ ?_; focus (simp only [dW]; omega))|((first|apply cG|apply cH|apply cF)<;>intro h<;>try simp only [h]))
    all_goals simp [h60]
theorem vY (d p:List UInt8) (k:Int) (c r:List UInt8) (hl:d.length + p.length<=1048576) (hc:c.length<=maxLen) (hr:r.length<=maxLen):Fn prog 32 [fE d p k,nD c r] (fun rs=>rs=aJZ d p k c r):=by
 have hV:=aDP d p k (by omega)
 have hI:=xM c r hc hr
 unfold aJZ
 cases hv:lv d p k with
 | false =>
  rw [hv] at hV
  refine cW aGH [] ?_
  dsimp only [aGH,cT,c7]
  simp only [fE,nD] at hV ⊢
  repeat' (first|(simp only [↓wA,↓wC,wB,cL,cK,bP,bQ,bR,reduceIte,reduceCtorEq,aA,bT,zM])|(refine cI (hV) rfl rfl ?_)|(refine cM (hV) rfl rfl ?_)|((first|apply cG|apply cH|apply cF)<;>intro h<;>try simp only [h]))
  all_goals simp
 | true =>
  rw [hv] at hV
  have hk:=aBS hv
  cases hok:gG c r with
  | false =>
   rw [hok] at hI
   refine cW aGH [] ?_
   dsimp only [aGH,cT,c7]
   simp only [fE,nD] at hV hI ⊢
   repeat' (first|(simp only [↓wA,↓wC,wB,cL,cK,bP,bQ,bR,reduceIte,reduceCtorEq,aA,bT,zM])|(refine cI (hV) rfl rfl ?_)|(refine cM (hV) rfl rfl ?_)|(refine cI (hI) rfl rfl ?_)|(refine cM (hI) rfl rfl ?_)|((first|apply cG|apply cH|apply cF)<;>intro h<;>try simp only [h]))
   all_goals simp
  | true =>
   rw [hok] at hI
   by_cases h60:k=60
   ·have hd:decide (k=60)=true:=decide_eq_true h60
    refine cW aGH [] ?_
    dsimp only [aGH,cT,c7]
    simp only [fE,nD] at hV hI ⊢
    repeat' (first|(simp only [hd,↓wA,↓wC,wB,cL,cK,bP,bQ,bR,reduceIte,reduceCtorEq,aA,bT,zM])|(refine cI (hV) rfl rfl ?_)|(refine cM (hV) rfl rfl ?_)|(refine cI (hI) rfl rfl ?_)|(refine cM (hI) rfl rfl ?_)|((first|apply cG|apply cH|apply cF)<;>intro h<;>try simp only [h]))
    all_goals simp [h60]
   ·have hd:decide (k=60)=false:=decide_eq_false h60
    have hE:=aCZ k c r hk.1 (by simp only [dW]; omega) hok
    have hll:=oF (k:=k) (by simp only [dW]; omega) hok
    refine cW aGH [] ?_
    dsimp only [aGH,cT,c7]
    simp only [fE,nD] at hV hI hE ⊢
    repeat' (first|(simp only [hd,cJ,↓wA,↓wC,wB,cL,cK,bP,bQ,bR,reduceIte,reduceCtorEq,aA,bT,zM])|(refine cI (hV) rfl rfl ?_)|(refine cM (hV) rfl rfl ?_)|(refine cI (hI) rfl rfl ?_)|(refine cM (hI) rfl rfl ?_)|(refine cI (hE) rfl rfl ?_)|(refine cM (hE) rfl rfl ?_)|(refine dL ?_)|(with_reducible refine cQ ?_ ?_; focus ((try simp only [aC,aD]); omega))|(with_reducible refine cP ?_ ?_; focus (simp only [dW]; omega))|((first|apply cG|apply cH|apply cF)<;>intro h<;>try simp only [h]))
    all_goals simp [h60]
def mtx (k:Int):List UInt8:=if k<=0 then [109,48] else 109 :: Lib.decDigits k.toNat
structure Digs (k:Int) (p:Int×List UInt8):Prop where
 lo:0<=p.1
 hi:p.1<=k
 len:p.2.length<=21
 eq:Lib.decDigits k.toNat=if p.1=0 then p.2 else Lib.decDigits p.1.toNat ++ p.2
theorem aWU {k:Int} (h:0 < k):Digs k (k,[]):=⟨by show 0<=k; omega,by show k<=k; omega,by simp,by simp only; rw [if_neg (by omega)]; simp⟩
theorem Digs.next {k:Int} {p:Int×List UInt8} (hk:k<=100000000000000) (h:Digs k p) (hp:0 < p.1):Digs k (p.1 / 10,aK (48 + (p.1 % 10).toNat) :: p.2):=by
 obtain ⟨n,s⟩:=p
 have h0:(0:Int) < n:=hp
 obtain ⟨m,rfl⟩:=bA (show (0:Int)<=n by omega)
 have he:=h.eq
 have hh:=h.hi
 simp only at he hh ⊢
 rw [if_neg (by omega),aB] at he
 have hmd:((m:Int) % 10).toNat=m % 10:=by omega
 have hdv:((m:Int) / 10).toNat=m / 10:=by omega
 have key:Lib.decDigits k.toNat=if (m:Int) / 10=0 then aK (48 + m % 10) :: s else Lib.decDigits (m / 10) ++ aK (48 + m % 10) :: s:=by
  rw [he]
  by_cases lB:m < 10
  ·rw [tK lB,if_pos (by omega),show m % 10=m by omega]; rfl
  ·rw [uR lB,if_neg (by omega)]; simp
 have hl:=yE k.toNat (by omega)
 refine ⟨by show (0:Int)<=(m:Int) / 10; omega,by show (m:Int) / 10<=k; omega,?_,by simp only [hmd,hdv]; exact key⟩
 rw [key] at hl
 simp only [hmd]
 split at hl
 ·exact hl
 ·rw [aC] at hl; omega
theorem Digs.done {k:Int} {p:Int×List UInt8} (h:Digs k p) (hp:¬ 0 < p.1):Lib.decDigits k.toNat=p.2:=by
 have:=h.lo
 rw [h.eq,if_pos (by omega)]
theorem aAL (k:Int) (h1:k<=100000000000000) (h0:-100000000000000<=k):Fn prog 45 [.int .i64 k] (fun rs=>rs=[.str (mtx k)]):=by
 by_cases h:k<=0
 ·have hd:decide (k<=0)=true:=decide_eq_true h
  have hm:mtx k=[109,48]:=if_pos h
  rw [hm]
  refine cW aOp [] ?_
  dsimp only [aOp,cT,c7]
  repeat' (first|(simp only [hd,↓wA,↓wC,wB,cL,cK,bP,bQ,bR,reduceIte,reduceCtorEq,aA,bT])|((first|apply cG|apply cH|apply cF)<;>intro h<;>try simp only [h]))
 ·have hd:decide (k<=0)=false:=decide_eq_false h
  have hm:mtx k=109 :: Lib.decDigits k.toNat:=if_neg h
  rw [hm]
  refine cW aOp [] ?_
  dsimp only [aOp,cT,c7]
  repeat' (first|(simp only [hd,↓wA,↓wC,wB,cL,cK,bP,bQ,bR,reduceIte,reduceCtorEq,aA,bT])|((first|apply cG|apply cH|apply cF)<;>intro h<;>try simp only [h]))
  refine d5 (fun p:Int×List UInt8=>⟨[(0,.d (.int .i64 p.1)),(3,.d (.str p.2))],[]⟩) (Digs k) (fun p=>p.1.toNat) (k,[]) (cU _ rfl ⟨⟨rfl,rfl⟩,⟨rfl,rfl⟩,trivial⟩) (aWU (by omega)) ?_
  intro p hp
  have l0:=hp.lo
  have lh:=hp.hi
  have ll:=hp.len
  by_cases hpos:0 < p.1
  ·have hd:decide (0 < p.1)=true:=decide_eq_true hpos
   have hnx:=hp.next h1 hpos
   have hq:p.1.tdiv 10=p.1 / 10:=aX l0
   have hr:p.1.tmod 10=p.1 % 10:=aN l0
   repeat' (first|(simp only [hd,hq,hr,cJ,↓wA,↓wC,wB,cL,cK,bP,bQ,bR,reduceIte,reduceCtorEq,aA,bT])|(with_reducible refine cQ ?_ ?_; focus decide)|(with_reducible refine cQ ?_ ?_; focus omega)|(with_reducible refine cP ?_ ?_; focus (simp only [dW]; omega))|((first|apply cG|apply cH|apply cF)<;>intro h<;>try simp only [h]))
   refine aPU (bs:=[aK (48 + (p.1 % 10).toNat)]) (by
    have e:(((aK (48 + (p.1 % 10).toNat)).toNat:Nat):Int)=48 + p.1 % 10:=by
     rw [bC]; omega
    show some (Ob.val (D.sl true 1 ((D.int IntKind.u8 (48 + p.1 % 10)).cons D.nil)))=some (.val (.sl true 1 (D.cons (.int .u8 (((aK (48 + (p.1 % 10).toNat)).toNat:Nat):Int)) .nil)))
    rw [e]) ?_
   repeat' (first|(simp only [hq,cJ,↓wA,↓wC,wB,cL,cK,bP,bQ,bR,reduceIte,reduceCtorEq,aA,bT])|(with_reducible refine cQ ?_ ?_; focus decide)|(with_reducible refine cQ ?_ ?_; focus omega)|(with_reducible refine cQ ?_ ?_; focus (simp; omega))|(with_reducible refine cP ?_ ?_; focus (simp only [dW]; omega))|((first|apply cG|apply cH|apply cF)<;>intro h<;>try simp only [h]))
   exact ⟨_,(cU _ rfl ⟨⟨rfl,rfl⟩,⟨rfl,rfl⟩,trivial⟩),hnx,by show (p.1 / 10).toNat < p.1.toNat; omega⟩
  ·have hd:decide (0 < p.1)=false:=decide_eq_false hpos
   have hdn:=hp.done hpos
   repeat' (first|(simp only [hd,cJ,↓wA,↓wC,wB,cL,cK,bP,bQ,bR,reduceIte,reduceCtorEq,aA,bT])|(with_reducible refine cQ ?_ ?_; focus omega)|((first|apply cG|apply cH|apply cF)<;>intro h<;>try simp only [h]))
   all_goals rw [hdn]
end Go.Pe.Tryz
namespace Go.Pe.Tryz
open Go.Proofs.Tryz
structure App where
 i:Int
 q:Int
 d:Int
 a:List Int
 h:List Int
 s:Int
def App.d' (x:App):D:=.st (.cons (.int .i64 x.i) (.cons (.int .i64 x.q) (.cons (.int .i64 x.d) (.cons (.sl false 1 (dl iD x.a)) (.cons (.sl false 1 (dl iD x.h)) (.cons (.int .i64 x.s) .nil))))))
def App.ok0 (x:App):Prop:=x.a.length<=1048576/\x.h.length<=1048576
theorem cY (v:List Int):(dl iD v).noOwn=true:=rP aMp v
theorem dM (v:List Int):(dl iD v).unown=dl iD v:=uG aM7 v
theorem aKW (v:List Int) (n:Int) (h0:0<=n) (h1:n<=1048576) (hm:v.length<=maxLen):Fn prog 122 [.sl false 1 (dl iD v),.int .i64 n] (fun rs=>rs=[.int .i64 (if n - v.length < 0 then -1 else n - v.length)]):=by
 have hm':maxLen=9223372036854775807:=by rfl
 refine cW aQJ [] ?_
 dsimp only [aQJ,cT,c7]
 simp only [cO,↓wA,↓wC,wB,cL,cK,bP,bQ,bR,reduceIte,reduceCtorEq,aA,bT]
 refine cP (by simp only [dW]; omega) ?_
 simp only [↓wA,↓wC,wB,cL,cK,bP,bQ,bR,reduceIte,reduceCtorEq,aA,bT]
 refine cH (fun h=>?_) (fun h=>?_)<;>simp only [↓wA,↓wC,wB,cL,cK,bP,bQ,bR,reduceIte,reduceCtorEq,aA,bT]
 ·rw [if_pos (by simpa using h)]
 ·rw [if_neg (by simpa using h)]
theorem aHk (v:List Int) (hlen:v.length<=1048576):Fn prog 161 [.sl false 1 (dl iD v),.sl false 1 (dl iD v)] (fun rs=>rs=[.bool true]):=by
 refine cW aRe [] ?_
 dsimp only [aRe,cT,c7]
 simp only [↓wA,↓wC,wB,cL,cK,bP,bQ,bR,reduceIte,reduceCtorEq,aA,bT]
 refine d5 (fun i:Nat=>⟨[(0,.d (.sl false 1 (dl iD v))),(1,.d (.sl false 1 (dl iD v))),(5,.d (.int .i64 i))],[]⟩)
  (fun i=>i<=v.length) (fun i=>v.length - i) 0 (cU [] rfl ⟨⟨rfl,rfl⟩,⟨rfl,rfl⟩,⟨rfl,rfl⟩,trivial⟩) (aP _) ?_
 intro i hi
 by_cases hlt:i < v.length
 ·obtain ⟨r,hr⟩:=dQ hlt
  have hd:decide ((i:Int) < (v.length:Int))=true:=decide_eq_true (by omega)
  have h0:(0:Int)<=(i:Int):=by omega
  repeat' (first|(simp only [cO,c6,hd,aB,hr,aE,h0,cJ,iD,↓wA,↓wC,wB,cL,cK,bP,bQ,bR,reduceIte,reduceCtorEq,aA,bT])|((first|apply cG|apply cH|apply cF)<;>intro h<;>try simp only [h]))
  refine cP (by simp only [dW]; omega) ?_
  exact ⟨i + 1,cU [] rfl ⟨⟨rfl,rfl⟩,⟨rfl,rfl⟩,⟨rfl,rfl⟩,trivial⟩,by omega,by omega⟩
 ·have hd:decide ((i:Int) < (v.length:Int))=false:=decide_eq_false (by omega)
  simp only [cO,hd,↓wA,↓wC,wB,cL,cK,bP,bQ,bR,reduceIte,reduceCtorEq,aA,bT]
theorem aIR (v:List Int) (hlen:v.length<=1048576):Fn prog 131 [.sl false 1 (dl iD v)] (fun rs=>rs=[.sl true 1 (dl iD v)]):=by
 refine cW aR1 [] ?_
 dsimp only [aR1,cT,c7]
 simp only [↓wA,↓wC,wB,cL,cK,bP,bQ,bR,reduceIte,reduceCtorEq,aA,bT]
 simp only [cO,↓wA,↓wC,wB,cL,cK,bP,bQ,bR,reduceIte,reduceCtorEq,aA,bT]
 refine cQ (by omega) ?_
 have hz:jC (aT (↑v.length:Int).toNat (D.int .i64 0))=dl iD (v.take 0 ++ aT (v.length - 0) 0):=by
  rw [show D.int .i64 0=iD 0 from rfl,pE]; simp
 rw [hz]
 refine d5 (fun i:Nat=>⟨[(0,.d (.sl false 1 (dl iD v))),(3,.own 0),(4,.d (.int .i64 i))],[.val (.sl true 1 (dl iD (v.take i ++ aT (v.length - i) 0)))]⟩)
  (fun i=>i<=v.length) (fun i=>v.length - i) 0 (cU [] rfl ⟨⟨rfl,rfl⟩,⟨rfl,rfl⟩,⟨rfl,rfl⟩,trivial⟩) (aP _) ?_
 intro i hi
 by_cases hlt:i < v.length
 ·obtain ⟨r,hr⟩:=dQ hlt
  have hd:decide ((i:Int) < (v.length:Int))=true:=by simp; omega
  have h0:(0:Int)<=(i:Int):=by omega
  have hn:(v.take i ++ aT (v.length - i) (0:Int))[i]?=some 0:=by
   rw [List.getElem?_append_right (by simp; omega),List.length_take,Nat.min_eq_left (by omega),Nat.sub_self,show v.length - i=(v.length - (i + 1)) + 1 by omega]; rfl
  repeat' (first|(simp only [cO,c6,hd,h0,aB,hr,hn,aE,cJ,iD,↓wA,↓wC,wB,cL,cK,bP,bQ,bR,reduceIte,reduceCtorEq,aA,bT])|(refine cP (by simp only [dW]; omega) ?_)|((first|apply cG|apply cH|apply cF)<;>intro h<;>try simp only [h]))
  have hfs:(dl iD (v.take i ++ aT (v.length - i) (0:Int))).setN i (D.int .i64 r)=dl iD (v.take (i + 1) ++ aT (v.length - (i + 1)) 0):=by
   rw [show D.int .i64 r=iD r from rfl,gV,vN hr]
  rw [hfs]
  exact ⟨i + 1,cU [] rfl ⟨⟨rfl,rfl⟩,⟨rfl,rfl⟩,⟨rfl,rfl⟩,trivial⟩,by omega,by omega⟩
 ·have hd:decide ((i:Int) < (v.length:Int))=false:=by simp; omega
  have e:i=v.length:=by omega
  simp only [cO,hd,↓wA,↓wC,wB,cL,cK,bP,bQ,bR,reduceIte,reduceCtorEq,aA,bT]
  simp [e]
theorem App.noOwn (x:App):x.d'.noOwn=true:=by simp [App.d',D.noOwn,cY]
theorem App.unown (x:App):x.d'.unown=x.d':=by simp [App.d',D.unown,dM]
theorem aJ9 {α:Type} {xs:List α} {i:Nat} {a:α} (h:xs[i]?=some a):xs.drop i=a :: xs.drop (i + 1):=by
 have hi:=cV h
 rw [aY hi]
 rw [List.getElem?_eq_getElem hi] at h
 injection h with h
 rw [h]
theorem aGt (n:Int):Fn prog 81 [.int .i64 n] (fun rs=>rs=[.bool (dC n 0 20000)]):=by
 refine cW aTJ [] ?_
 dsimp only [aTJ,cT,c7]
 repeat' (first|(simp only [↓wA,↓wC,wB,cL,cK,bP,bQ,bR,reduceIte,reduceCtorEq,aA,bT])|(refine cI (e9 _ _ _) rfl rfl ?_)|(refine cM (e9 _ _ _) rfl rfl ?_)|((first|apply cG|apply cH|apply cF)<;>intro h<;>try simp only [h]))
theorem aGk (n:Int):Fn prog 79 [.int .i64 n] (fun rs=>rs=[.bool (dC n 0 20000)]):=by
 refine cW aUb [] ?_
 dsimp only [aUb,cT,c7]
 repeat' (first|(simp only [↓wA,↓wC,wB,cL,cK,bP,bQ,bR,reduceIte,reduceCtorEq,aA,bT])|(refine cI (iK _ _ _) rfl rfl ?_)|(refine cM (iK _ _ _) rfl rfl ?_)|((first|apply cG|apply cH|apply cF)<;>intro h<;>try simp only [h]))
theorem aHl (v:List Int) (n:Int) (hlen:v.length<=1048576):Fn prog 126 [.sl false 1 (dl iD v),.int .i64 n] (fun rs=>rs=[.bool (v.contains n)]):=by
 refine cW aQP [] ?_
 dsimp only [aQP,cT,c7]
 simp only [↓wA,↓wC,wB,cL,cK,bP,bQ,bR,reduceIte,reduceCtorEq,aA,bT]
 refine d5 (fun i:Nat=>⟨[(0,.d (.sl false 1 (dl iD v))),(1,.d (.int .i64 n)),(5,.d (.int .i64 i))],[]⟩)
  (fun i=>i<=v.length/\n ∉ v.take i) (fun i=>v.length - i) 0 (cU [] rfl ⟨⟨rfl,rfl⟩,⟨rfl,rfl⟩,⟨rfl,rfl⟩,trivial⟩) ⟨aP _,by simp⟩ ?_
 rintro i ⟨hi,hp⟩
 by_cases hlt:i < v.length
 ·obtain ⟨r,hr⟩:=dQ hlt
  have hd:decide ((i:Int) < (v.length:Int))=true:=decide_eq_true (by omega)
  have h0:(0:Int)<=(i:Int):=by omega
  by_cases hc:r=n
  ·have hm:v.contains n=true:=by rw [aF]; rw [<- hc]; exact aO hr
   have hdc:decide (r=n)=true:=decide_eq_true hc
   simp only [cO,c6,hd,h0,hr,aE,aB,cJ,iD,hdc,hm,↓wA,↓wC,wB,cL,cK,bP,bQ,bR,reduceIte,reduceCtorEq,aA,bT]
  ·have hdc:decide (r=n)=false:=decide_eq_false hc
   simp only [cO,c6,hd,h0,hr,aE,aB,cJ,iD,hdc,↓wA,↓wC,wB,cL,cK,bP,bQ,bR,reduceIte,reduceCtorEq,aA,bT]
   refine cP (by simp only [dW]; omega) ?_
   refine ⟨i + 1,cU [] rfl ⟨⟨rfl,rfl⟩,⟨rfl,rfl⟩,⟨rfl,rfl⟩,trivial⟩,⟨by omega,?_⟩,by omega⟩
   have hi:=cV hr
   rw [aG hi]
   have:v[i]=r:=by rw [List.getElem?_eq_getElem hi] at hr; injection hr
   rw [this]
   simp only [aV,aR,not_or]
   exact ⟨hp,fun h=>hc h.symm⟩
 ·have hd:decide ((i:Int) < (v.length:Int))=false:=decide_eq_false (by omega)
  simp only [cO,hd,↓wA,↓wC,wB,cL,cK,bP,bQ,bR,reduceIte,reduceCtorEq,aA,bT]
  rw [aI (by omega)] at hp
  have:v.contains n=false:=by
   cases h:v.contains n with
   | false=>rfl
   | true=>exact absurd (aF.1 h) hp
  rw [this]
def oC (v:List Int):Bool:=(List.range (v.length - 1)).all fun j=>decide (v.getD j 0 < v.getD (j + 1) 0)
theorem rV (v:List Int):oC v=true↔∀ j,j + 1 < v.length->v.getD j 0 < v.getD (j + 1) 0:=by
 simp only [oC,a7,List.mem_range,decide_eq_true_eq]
 exact ⟨fun h j hj=>h j (by omega),fun h j hj=>h j (by omega)⟩
theorem aFx (v:List Int) (hlen:v.length<=1048576):Fn prog 137 [.sl false 1 (dl iD v)] (fun rs=>rs=[.bool (oC v)]):=by
 refine cW aQZ [] ?_
 dsimp only [aQZ,cT,c7]
 simp only [↓wA,↓wC,wB,cL,cK,bP,bQ,bR,reduceIte,reduceCtorEq,aA,bT]
 refine d5 (fun i:Nat=>⟨[(0,.d (.sl false 1 (dl iD v))),(3,.d (.int .i64 (i + 1:Nat)))],[]⟩)
  (fun i=>i<=v.length/\∀ j,j + 1 < i + 1->j + 1 < v.length->v.getD j 0 < v.getD (j + 1) 0) (fun i=>v.length - i) 0 (cU [] rfl ⟨⟨rfl,rfl⟩,⟨rfl,rfl⟩,trivial⟩) ⟨aP _,fun j h=>by omega⟩ ?_
 rintro i ⟨hi,hp⟩
 by_cases hlt:i + 1 < v.length
 ·obtain ⟨a,ha⟩:=dQ (show i < v.length by omega)
  obtain ⟨b,hb⟩:=dQ hlt
  have hd:decide (((i + 1:Nat):Int) < (v.length:Int))=true:=decide_eq_true (by omega)
  have h0:(0:Int)<=((i + 1:Nat):Int):=by omega
  have h1:(0:Int)<=((i + 1:Nat):Int) - 1:=by omega
  have ha':v[(((i + 1:Nat):Int) - 1).toNat]?=some a:=by rw [show (((i + 1:Nat):Int) - 1).toNat=i by omega]; exact ha
  have ga:v.getD i 0=a:=by simp [bE,ha]
  have gb:v.getD (i + 1) 0=b:=by simp [bE,hb]
  repeat' (first|(simp only [cO,c6,hd,h0,h1,ha',hb,aB,aE,cJ,iD,↓wA,↓wC,wB,cL,cK,bP,bQ,bR,reduceIte,reduceCtorEq,aA,bT])|(refine cP (by simp only [dW]; omega) ?_)|((first|apply cG|apply cH|apply cF)<;>intro h<;>try simp only [h]))
  ·have hr:oC v=false:=by
    cases hr:oC v with
    | false=>rfl
    | true =>
     have:=(rV v).1 hr i hlt
     rw [ga,gb] at this
     simp at h; omega
   rw [hr]
  ·refine ⟨i + 1,cU [] rfl ⟨⟨rfl,rfl⟩,⟨rfl,rfl⟩,trivial⟩,⟨by omega,fun j hj hj2=>?_⟩,by omega⟩
   by_cases e:j=i
   ·subst e
    rw [ga,gb]
    simp at h; omega
   ·exact hp j (by omega) hj2
 ·have hd:decide (((i + 1:Nat):Int) < (v.length:Int))=false:=decide_eq_false (by omega)
  have hr:oC v=true:=(rV v).2 fun j hj=>hp j (by omega) hj
  simp only [cO,hd,↓wA,↓wC,wB,cL,cK,bP,bQ,bR,reduceIte,reduceCtorEq,aA,bT]
  rw [hr]
theorem aDx (p:Int->Bool) (g:Nat) (c:D) (xs:List Int) (hc:c.caps=true) (he:gE prog.P g=true) (hlen:xs.length<=1048576) (hp:∀ x∈xs,Fn prog g (iD x :: c.list) (fun rs=>rs=[.bool (p x)])) :
  Fn prog 174 [.sl false 1 (dl iD xs),.clo g c] (fun rs=>rs=[.int .i64 (kS p xs)]):=by
 refine cW aQI [] ?_
 dsimp only [aQI,cT,c7]
 simp only [cO,↓wA,↓wC,wB,cL,cK,bP,bQ,bR,reduceIte,reduceCtorEq,aA,bT]
 refine dR xs.length (fun i:Nat=>⟨[(0,.d (.sl false 1 (dl iD xs))),(1,.d (.clo g c)),(7,.d (.int .i64 xs.length)),(8,.d (.int .i64 i))],[]⟩) (fun i=>∀ j r,j < i->xs[j]?=some r->p r=false) (cU _ rfl ⟨⟨rfl,rfl⟩,⟨rfl,rfl⟩,⟨rfl,rfl⟩,⟨rfl,rfl⟩,trivial⟩) (fun j r hj=>by omega) ?_ ?_
 ·intro i hlt hinv hd h0
  obtain ⟨r,hr⟩:=dQ hlt
  have hcl:=hp r (aO hr)
  simp only [hd,h0,c6,aB,hr,aE,cJ,↓eJ,↓wA,↓wC,wB,cL,cK,bP,bQ,bR,reduceIte,reduceCtorEq,aA,bT]
  refine vH (ds:=[iD r]) hcl he hc (by simp [dB,dI,kP,iD]) rfl ?_
  cases hpr:p r with
  | true =>
   simp only [↓wA,↓wC,wB,cL,cK,bP,bQ,bR,reduceIte,reduceCtorEq,aA,bT]
   rw [rT hr hpr hinv]
  | false =>
   simp only [↓wA,↓wC,wB,cL,cK,bP,bQ,bR,reduceIte,reduceCtorEq,aA,bT]
   refine cP (by simp only [dW]; omega) ?_
   refine fH (cU _ rfl ⟨⟨rfl,rfl⟩,⟨rfl,rfl⟩,⟨rfl,rfl⟩,⟨rfl,rfl⟩,trivial⟩) hlt fun j s hj hs=>?_
   by_cases e:j=i
   ·subst e; rw [hr] at hs; injection hs with hs; rw [<- hs]; exact hpr
   ·exact hinv j s (by omega) hs
 ·intro hinv hd
  simp only [hd,↓wA,↓wC,wB,cL,cK,bP,bQ,bR,reduceIte,reduceCtorEq,aA,bT]
  rw [qA fun j r hj=>hinv j r (cV hj) hj]
theorem zR (p:Int->Bool) (g:Nat) (c:D) (xs:List Int) (hc:c.caps=true) (he:gE prog.P g=true) (hlen:xs.length<=1048576) (hp:∀ x∈xs,Fn prog g (iD x :: c.list) (fun rs=>rs=[.bool (p x)])) :
  Fn prog 138 [.sl false 1 (dl iD xs),.clo g c] (fun rs=>rs=[.bool (xs.any p)]):=by
 refine cW aRf [] ?_
 dsimp only [aRf,cT,c7]
 simp only [↓wA,↓wC,wB,cL,cK,bP,bQ,bR,reduceIte,reduceCtorEq,aA,bT]
 refine cI (aDx p g c xs hc he hlen hp) rfl rfl ?_
 simp only [r6,↓wA,↓wC,wB,cL,cK,bP,bQ,bR,reduceIte,reduceCtorEq,aA,bT]
theorem aDL (xs:List Int) (v:Int) (hlen:xs.length<=1048576) :
  Fn prog 189 [.sl false 1 (dl iD xs),iD v] (fun rs=>rs=[.int .i64 (kS (fun x=>decide (v=x)) xs)]):=by
 refine cW aQ6 [] ?_
 dsimp only [aQ6,cT,c7]
 simp only [cO,iD,↓wA,↓wC,wB,cL,cK,bP,bQ,bR,reduceIte,reduceCtorEq,aA,bT]
 refine dR xs.length (fun i:Nat=>⟨[(0,.d (.sl false 1 (dl iD xs))),(1,.d (iD v)),(7,.d (.int .i64 xs.length)),(8,.d (.int .i64 i))],[]⟩) (fun i=>∀ j r,j < i->xs[j]?=some r->decide (v=r)=false) (cU _ rfl ⟨⟨rfl,rfl⟩,⟨rfl,rfl⟩,⟨rfl,rfl⟩,⟨rfl,rfl⟩,trivial⟩) (fun j r hj=>by omega) ?_ ?_
 ·intro i hlt hinv hd h0
  obtain ⟨r,hr⟩:=dQ hlt
  simp only [hd,h0,c6,aB,hr,aE,cJ,↓eJ,iD,↓wA,↓wC,wB,cL,cK,bP,bQ,bR,reduceIte,reduceCtorEq,aA,bT]
  by_cases hpr:v=r
  ·simp only [decide_eq_true hpr,↓wA,↓wC,wB,cL,cK,bP,bQ,bR,reduceIte,reduceCtorEq,aA,bT]
   rw [rT hr (decide_eq_true hpr) hinv]
  ·simp only [decide_eq_false hpr,↓wA,↓wC,wB,cL,cK,bP,bQ,bR,reduceIte,reduceCtorEq,aA,bT]
   refine cP (by simp only [dW]; omega) ?_
   refine fH (cU _ rfl ⟨⟨rfl,rfl⟩,⟨rfl,rfl⟩,⟨rfl,rfl⟩,⟨rfl,rfl⟩,trivial⟩) hlt fun j s hj hs=>?_
   by_cases e:j=i
   ·subst e; rw [hr] at hs; injection hs with hs; rw [<- hs]; exact decide_eq_false hpr
   ·exact hinv j s (by omega) hs
 ·intro hinv hd
  simp only [hd,↓wA,↓wC,wB,cL,cK,bP,bQ,bR,reduceIte,reduceCtorEq,aA,bT]
  rw [qA fun j r hj=>hinv j r (cV hj) hj]
theorem xY (xs:List Int) (v:Int) (hlen:xs.length<=1048576):Fn prog 151 [.sl false 1 (dl iD xs),.int .i64 v] (fun rs=>rs=[.bool (xs.contains v)]):=by
 refine cW aQy [] ?_
 dsimp only [aQy,cT,c7]
 simp only [↓wA,↓wC,wB,cL,cK,bP,bQ,bR,reduceIte,reduceCtorEq,aA,bT]
 refine cI (aDL xs v hlen) rfl rfl ?_
 simp only [r6,tM,↓wA,↓wC,wB,cL,cK,bP,bQ,bR,reduceIte,reduceCtorEq,aA,bT]
theorem aJy {α:Type} (p:α->Bool) (xs:List α):xs.any (fun x=>!p x)=!xs.all p:=by
 induction xs with
 | nil=>rfl
 | cons a v ih=>simp [List.any_cons,List.all_cons,ih]
theorem aFD (v:List Int) (a b:Int) (hlen:v.length<=1048576):Fn prog 124 [.sl false 1 (dl iD v),.int .i64 a,.int .i64 b] (fun rs=>rs=[.bool (v.all (fun n=>dC n a b) && oC v)]):=by
 refine cW aRE [] ?_
 dsimp only [aRE,cT,c7]
 simp only [↓wA,↓wC,wB,cL,cK,bP,bQ,bR,reduceIte,reduceCtorEq,aA,bT]
 refine dR v.length (fun i:Nat=>⟨[(0,.d (.sl false 1 (dl iD v))),(1,.d (.int .i64 a)),(2,.d (.int .i64 b)),(7,.d (.int .i64 i))],[]⟩) (fun i=>(∀ j r,j < i->v[j]?=some r->dC r a b=true)/\∀ j,j + 1 < i->v.getD j 0 < v.getD (j + 1) 0) (cU _ rfl ⟨⟨rfl,rfl⟩,⟨rfl,rfl⟩,⟨rfl,rfl⟩,⟨rfl,rfl⟩,trivial⟩) ⟨fun j r hj=>by omega,fun j hj=>by omega⟩ ?_ ?_
 ·rintro i hlt ⟨hin,hri⟩ hd h0
  obtain ⟨r,hr⟩:=dQ hlt
  have gr:v.getD i 0=r:=by simp [bE,hr]
  have hc:=iK r a b
  cases hw:dC r a b with
  | false =>
   have hres:(v.all (fun n=>dC n a b) && oC v)=false:=by
    have:v.all (fun n=>dC n a b)=false:=bF.2 ⟨r,aO hr,by simp [hw]⟩
    rw [this]; rfl
   rw [hw] at hc
   repeat' (first|(simp only [cO,c6,hd,h0,aB,hr,aE,↓eJ,cJ,↓wA,↓wC,wB,cL,cK,bP,bQ,bR,reduceIte,reduceCtorEq,aA,bT])|(refine cI (hc) rfl rfl ?_)|(refine cM (hc) rfl rfl ?_)|((first|apply cG|apply cH|apply cF)<;>intro h<;>try simp only [h]))
   all_goals rw [hres]
  | true =>
   rw [hw] at hc
   have hin':∀ j s,j < i + 1->v[j]?=some s->dC s a b=true:=fun j s hj hs=>by
    by_cases e:j=i
    ·subst e; rw [hr] at hs; injection hs with hs; rw [<- hs]; exact hw
    ·exact hin j s (by omega) hs
   cases i with
   | zero =>
    have hg:decide ((0:Int) < ((0:Nat):Int))=false:=by decide
    repeat' (first|(simp only [cO,c6,hd,h0,aB,hr,aE,↓eJ,cJ,hg,↓wA,↓wC,wB,cL,cK,bP,bQ,bR,reduceIte,reduceCtorEq,aA,bT])|(refine cI (hc) rfl rfl ?_)|(refine cM (hc) rfl rfl ?_)|(refine cP (by simp only [dW]; omega) ?_)|((first|apply cG|apply cH|apply cF)<;>intro h<;>try simp only [h]))
    all_goals exact fH (cU _ rfl ⟨⟨rfl,rfl⟩,⟨rfl,rfl⟩,⟨rfl,rfl⟩,⟨rfl,rfl⟩,trivial⟩) hlt ⟨hin',fun j hj=>by omega⟩
   | succ k =>
    obtain ⟨y,hy⟩:=dQ (show k < v.length by omega)
    have gy:v.getD k 0=y:=by simp [bE,hy]
    have hg:decide ((0:Int) < ((k + 1:Nat):Int))=true:=decide_eq_true (by omega)
    have h1:(0:Int)<=((k + 1:Nat):Int) - 1:=by omega
    have hy':v[(((k + 1:Nat):Int) - 1).toNat]?=some y:=by rw [show (((k + 1:Nat):Int) - 1).toNat=k by omega]; exact hy
    by_cases hl:y < r
    ·have hq:decide (r<=y)=false:=decide_eq_false (by omega)
     repeat' (first|(simp only [cO,c6,hd,h0,h1,aB,hr,hy',aE,↓eJ,cJ,hg,hq,↓wA,↓wC,wB,cL,cK,bP,bQ,bR,reduceIte,reduceCtorEq,aA,bT])|(refine cI (hc) rfl rfl ?_)|(refine cM (hc) rfl rfl ?_)|(refine cP (by simp only [dW]; omega) ?_)|((first|apply cG|apply cH|apply cF)<;>intro h<;>try simp only [h]))
     all_goals refine fH (cU _ rfl ⟨⟨rfl,rfl⟩,⟨rfl,rfl⟩,⟨rfl,rfl⟩,⟨rfl,rfl⟩,trivial⟩) hlt ⟨hin',fun j hj=>?_⟩
     by_cases e:j=k
     ·subst e; rw [gy,gr]; exact hl
     ·exact hri j (by omega)
    ·have hq:decide (r<=y)=true:=decide_eq_true (by omega)
     have hres:(v.all (fun n=>dC n a b) && oC v)=false:=by
      have:oC v=false:=by
       cases h:oC v with
       | false=>rfl
       | true =>
        have:=(rV v).1 h k hlt
        rw [gy,gr] at this; omega
      rw [this,Bool.and_false]
     repeat' (first|(simp only [cO,c6,hd,h0,h1,aB,hr,hy',aE,↓eJ,cJ,hg,hq,↓wA,↓wC,wB,cL,cK,bP,bQ,bR,reduceIte,reduceCtorEq,aA,bT])|(refine cI (hc) rfl rfl ?_)|(refine cM (hc) rfl rfl ?_)|(refine cP (by simp only [dW]; omega) ?_)|((first|apply cG|apply cH|apply cF)<;>intro h<;>try simp only [h]))
     all_goals rw [hres]
 ·rintro ⟨hin,hri⟩ hd
  have hres:(v.all (fun n=>dC n a b) && oC v)=true:=by
   rw [aU]
   refine ⟨a7.2 fun n hn=>?_,(rV v).2 fun j hj=>hri j hj⟩
   obtain ⟨j,hj⟩:=List.getElem?_of_mem hn
   exact hin j n (cV hj) hj
  simp only [cO,hd,↓wA,↓wC,wB,cL,cK,bP,bQ,bR,reduceIte,reduceCtorEq,aA,bT]
  rw [hres]
end Go.Pe.Tryz
