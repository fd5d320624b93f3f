/- Records of a log: what a valid one is, walked; What a valid record is, and a record among the laws' helpers, walked; The lines of a log as plain lists of bytes: what a line is, how it is read, that there is one way alone; Numbers as decimal text: the library's, and the reference's own road to it; The law of EncodeRecord, walked; Logs read, as plain lists: cuts, parts, the records of a text; A text cut, split, verified, walked; The records at the start of a text: the program's road, the reference's; The reference's road through a text of records; What a valid log is; the laws of RecoverLog, IsValidLog, SyncLog; The law of AppendRecord; The law of LogRecords: marks on records; Appeals among the laws' helpers: sizes, copies, equality; walked; Lists of appeals among the laws' helpers: sizes and copies; walked; Copies of lists of appeals, walked; Small tests of appeals, walked; Rising lists, walked; Is an appeal valid? walked; Valid appeals, walked; Valid lists of appeals, walked; Offices among the laws' helpers: sizes, copies, equality; walked; Entries of a ledger: strings.Trim, walked; what an entry is -/
import Derived.Test.YtjmobminbckhjabGreatDoorPeD
import Derived.Test.YtjmobminbckhjabGreatDoorMc1
import Derived.Test.YtjmobminbckhjabGreatDoorMc2
import Derived.Test.YtjmobminbckhjabGreatDoorMc3
import Derived.Test.YtjmobminbckhjabGreatDoorMc4
import Derived.Test.YtjmobminbckhjabGreatDoorMc5
import Derived.Test.YtjmobminbckhjabGreatDoorMc6
import Derived.Test.YtjmobminbckhjabGreatDoorMc7
import Derived.Test.YtjmobminbckhjabGreatDoorMc8
import Derived.Test.YtjmobminbckhjabGreatDoorShelf
import Derived.Lib.ItoaNum
import Derived.Lib.IndexMore
import Derived.Lib.ItoaLen
import Derived.Lib.AsciiSet
set_option maxRecDepth 100000
set_option maxHeartbeats 4000000
set_option linter.all false
open Bool renaming and_eq_true->aT, and_true->bR
open Int renaming toNat_natCast->aB, toNat_zero->aK, tmod_eq_emod_of_nonneg->aU, eq_ofNat_of_zero_le->a7
open List renaming length_append->aC, length_singleton->aD, contains_iff_mem->aF, take_succ_eq_append_getElem->aG, length_cons->aH, take_of_length_le->aI, mem_cons->aJ, dropWhile_cons->aL, mem_of_getElem?->aN, length_drop->aO, mem_append->aP, takeWhile_cons->aQ, mem_singleton->aR, length_nil->aS, drop_eq_getElem_cons->aW, cons_append->aX, take_length->aY, all_eq_true->aZ, append_cancel_right->a6, dropWhile_sublist->a8, drop_drop->bA, eq_nil_or_concat->bB, concat_eq_append->bC, getD->bE, all_eq_false->bF, foldl_append->bG, all_append->bJ, drop_left'->bM, isPrefixOf->bP, replicate->bQ, all_cons->bT, range->bV
open Nat renaming reduceBEq->aA, zero_le->aV, le_trans->bD, strongRecOn->bL, le_refl->bU, reduceEqDiff->bW, reduceAdd->bX, reduceSub->bY, reduceLT->bZ
open Option renaming map_some->aE
open UInt8 renaming ofNat->aM, ofNat_toNat->bH, toNat_inj->bK
namespace Go.Pe.Tryz
open Go.Proofs.Tryz
def dE (n a b:Int):Bool:=decide (a<=n) && decide (n<=b)
theorem fL (n a b:Int):Fn prog 57 [.int .i64 n,.int .i64 a,.int .i64 b] (fun rs=>rs=[.bool (dE n a b)]):=by
 refine c7 aX0 [] ?_
 dsimp only [aX0,cY,dD]
 simp only [↓wA,↓wC,wB,cQ,cP,bW,bX,bY,reduceIte,reduceCtorEq,aA,bZ]
 refine cJ (fun h=>?_) (fun h=>?_)<;>simp only [h,↓wA,↓wC,wB,cQ,cP,bW,bX,bY,reduceIte,reduceCtorEq,aA,bZ]
 all_goals simp [dE,h]
theorem jL (n a b:Int):Fn prog 115 [.int .i64 n,.int .i64 a,.int .i64 b] (fun rs=>rs=[.bool (dE n a b)]):=by
 refine c7 aUr [] ?_
 dsimp only [aUr,cY,dD]
 simp only [↓wA,↓wC,wB,cQ,cP,bW,bX,bY,reduceIte,reduceCtorEq,aA,bZ]
 refine cJ (fun h=>?_) (fun h=>?_)<;>simp only [h,↓wA,↓wC,wB,cQ,cP,bW,bX,bY,reduceIte,reduceCtorEq,aA,bZ]
 all_goals simp [dE,h]
def isP (b:UInt8):Bool:=dE (b.toNat:Int) 32 126 && !decide ((b.toNat:Int)=35)
def plain (s:List UInt8):Bool:=s.all isP
theorem aDn {s:List UInt8} {i:Nat} {b:UInt8} (h:s[i]?=some b) (hp:plain (s.take i)=true) (hb:isP b=true):plain (s.take (i + 1))=true:=by
 have hi:=c6 h
 rw [aG hi]
 have:s[i]=b:=by rw [List.getElem?_eq_getElem hi] at h; injection h
 unfold plain at *
 rw [bJ,hp,this]
 simp [hb]
theorem aDk {s:List UInt8} {i:Nat} {b:UInt8} (h:s[i]?=some b) (hb:isP b=false):plain s=false:=by
 unfold plain
 rw [bF]
 exact ⟨b,aN h,by simp [hb]⟩
theorem eP:maxLen=9223372036854775807:=rfl
theorem uT (s:List UInt8) (hl:s.length<=maxLen):Fn prog 67 [.str s] (fun rs=>rs=[.bool (plain s)]):=by
 rw [eP] at hl
 refine c7 aYa [] ?_
 dsimp only [aYa,cY,dD]
 simp only [↓wA,↓wC,wB,cQ,cP,bW,bX,bY,reduceIte,reduceCtorEq,aA,bZ]
 refine eM (fun i:Nat=>⟨[(0,.d (.str s)),(5,.d (.int .i64 s.length)),(6,.d (.int .i64 i))],[]⟩)
  (fun i=>i<=s.length/\plain (s.take i)=true) (fun i=>s.length - i) 0 (cX [] rfl ⟨⟨rfl,rfl⟩,⟨rfl,rfl⟩,⟨rfl,rfl⟩,trivial⟩) ⟨aV _,by simp [plain]⟩ ?_
 rintro i ⟨hi,hp⟩
 by_cases hlt:i < s.length
 ·obtain ⟨b,hb⟩:=dS hlt
  have hd:decide ((i:Int) < (s.length:Int))=true:=decide_eq_true (by omega)
  have h0:(0:Int)<=(i:Int):=by omega
  repeat' (first|(simp only [hd,h0,hb,aB,cM,↓wA,↓wC,wB,cQ,cP,bW,bX,bY,reduceIte,reduceCtorEq,aA,bZ])|(refine cV (by simp only [eA]; omega) ?_)|((first|apply cJ|apply cK|apply cI)<;>intro h<;>try simp only [h]))
  all_goals first
   |(refine (congrArg (fun x=>[D.bool x]) (aDk hb ?_)).symm; simp_all [isP,dE]; done)
   |(refine (congrArg (fun x=>[D.bool x]) (aDk hb ?_)).symm; simp_all [isP,dE]; omega)
   |(exact ⟨i + 1,cX [] rfl ⟨⟨rfl,rfl⟩,⟨rfl,rfl⟩,⟨rfl,rfl⟩,trivial⟩,⟨by omega,aDn hb hp (by simp_all [isP,dE]<;>omega)⟩,by omega⟩)
 ·have hd:decide ((i:Int) < (s.length:Int))=false:=decide_eq_false (by omega)
  simp only [hd,↓wA,↓wC,wB,cQ,cP,bW,bX,bY,reduceIte,reduceCtorEq,aA,bZ]
  rw [aI (by omega)] at hp
  rw [hp]
theorem sK (s:List UInt8) (m:Int) (hl:s.length<=maxLen):Fn prog 77 [.str s,.int .i64 m] (fun rs=>rs=[.bool (plain s && decide ((s.length:Int)<=m))]):=by
 rw [eP] at hl
 refine c7 aW4 [] ?_
 dsimp only [aW4,cY,dD]
 simp only [↓wA,↓wC,wB,cQ,cP,bW,bX,bY,reduceIte,reduceCtorEq,aA,bZ]
 refine eM (fun i:Nat=>⟨[(0,.d (.str s)),(1,.d (.int .i64 m)),(5,.d (.int .i64 i))],[]⟩)
  (fun i=>i<=s.length/\plain (s.take i)=true) (fun i=>s.length - i) 0 (cX [] rfl ⟨⟨rfl,rfl⟩,⟨rfl,rfl⟩,⟨rfl,rfl⟩,trivial⟩) ⟨aV _,by simp [plain]⟩ ?_
 rintro i ⟨hi,hp⟩
 by_cases hlt:i < s.length
 ·obtain ⟨b,hb⟩:=dS hlt
  have hd:decide ((i:Int) < (s.length:Int))=true:=decide_eq_true (by omega)
  have h0:(0:Int)<=(i:Int):=by omega
  have hbl:(b.toNat:Int) < 256:=by have:=b.toNat_lt; omega
  repeat' (first|(simp only [hd,h0,hb,aB,cM,↓wA,↓wC,wB,cQ,cP,bW,bX,bY,reduceIte,reduceCtorEq,aA,bZ])|(refine cO (jL _ _ _) rfl rfl ?_)|(refine cR (jL _ _ _) rfl rfl ?_)|(refine cV (by simp only [eA]; omega) ?_)|((first|apply cJ|apply cK|apply cI)<;>intro h<;>try simp only [h]))
  all_goals first
   |(rw [aDk hb (by simp_all [isP])]; rfl)
   |(exact ⟨i + 1,cX [] rfl ⟨⟨rfl,rfl⟩,⟨rfl,rfl⟩,⟨rfl,rfl⟩,trivial⟩,⟨by omega,aDn hb hp (by simp_all [isP])⟩,by omega⟩)
 ·have hd:decide ((i:Int) < (s.length:Int))=false:=decide_eq_false (by omega)
  simp only [hd,↓wA,↓wC,wB,cQ,cP,bW,bX,bY,reduceIte,reduceCtorEq,aA,bZ]
  rw [aI (by omega)] at hp
  rw [hp]
  simp
theorem aB7 (s:List UInt8) (c:UInt8) (hl:s.length<=maxLen):Fn prog 78 [.str s,.int .u8 (c.toNat:Int)] (fun rs=>rs=[.bool (s.contains c)]):=by
 rw [eP] at hl
 refine c7 aXH [] ?_
 dsimp only [aXH,cY,dD]
 simp only [↓wA,↓wC,wB,cQ,cP,bW,bX,bY,reduceIte,reduceCtorEq,aA,bZ]
 refine eM (fun i:Nat=>⟨[(0,.d (.str s)),(1,.d (.int .u8 (c.toNat:Int))),(5,.d (.int .i64 i))],[]⟩)
  (fun i=>i<=s.length/\c ∉ s.take i) (fun i=>s.length - i) 0 (cX [] rfl ⟨⟨rfl,rfl⟩,⟨rfl,rfl⟩,⟨rfl,rfl⟩,trivial⟩) ⟨aV _,by simp⟩ ?_
 rintro i ⟨hi,hp⟩
 by_cases hlt:i < s.length
 ·obtain ⟨b,hb⟩:=dS hlt
  have hd:decide ((i:Int) < (s.length:Int))=true:=decide_eq_true (by omega)
  have h0:(0:Int)<=(i:Int):=by omega
  have hbc:decide ((b.toNat:Int)=(c.toNat:Int))=decide (b=c):=by
   apply decide_eq_decide.2
   constructor
   ·intro h; exact bK.1 (by omega)
   ·intro h; rw [h]
  by_cases hc:b=c
  ·have hm:s.contains c=true:=by rw [aF]; rw [<- hc]; exact aN hb
   simp only [hd,h0,hb,aB,cM,hbc,hc,hm,↓wA,↓wC,wB,cQ,cP,bW,bX,bY,reduceIte,reduceCtorEq,aA,bZ]
  ·simp only [hd,h0,hb,aB,cM,hbc,hc,↓wA,↓wC,wB,cQ,cP,bW,bX,bY,reduceIte,reduceCtorEq,aA,bZ]
   refine cV (by simp only [eA]; omega) ?_
   refine ⟨i + 1,cX [] rfl ⟨⟨rfl,rfl⟩,⟨rfl,rfl⟩,⟨rfl,rfl⟩,trivial⟩,⟨by omega,?_⟩,by omega⟩
   have hi:=c6 hb
   rw [aG hi]
   have:s[i]=b:=by rw [List.getElem?_eq_getElem hi] at hb; injection hb
   rw [this]
   simp only [aP,aR,not_or]
   exact ⟨hp,fun h=>hc h.symm⟩
 ·have hd:decide ((i:Int) < (s.length:Int))=false:=decide_eq_false (by omega)
  simp only [hd,↓wA,↓wC,wB,cQ,cP,bW,bX,bY,reduceIte,reduceCtorEq,aA,bZ]
  rw [aI (by omega)] at hp
  have:s.contains c=false:=by
   cases h:s.contains c with
   | false=>rfl
   | true=>exact absurd (aF.1 h) hp
  rw [this]
def fS (c r:List UInt8):Bool:=dE c.length 1 160 && decide ((r.length:Int)<=200) && plain c && plain r && !c.contains 64
def mM (c r:List UInt8):D:=.st (.cons (.str c) (.cons (.str r) .nil))
theorem zI (c r:List UInt8) (hc:c.length<=maxLen) (hr:r.length<=maxLen):Fn prog 40 [mM c r] (fun rs=>rs=[.bool (fS c r)]):=by
 have hne:(!decide (c=([]:List UInt8)))=decide (1<=(c.length:Int)):=by
  cases c with
  | nil=>rfl
  | cons a c=>simp; omega
 have h64:(64:Int)=((64:UInt8).toNat:Int):=rfl
 refine c7 aYk [] ?_
 dsimp only [aYk,cY,dD]
 simp only [mM]
 repeat' (first|(simp only [hne,↓wA,↓wC,wB,cQ,cP,bW,bX,bY,reduceIte,reduceCtorEq,aA,bZ])|(refine cO (sK _ _ hc) rfl rfl ?_)|(refine cR (sK _ _ hc) rfl rfl ?_)|(refine cO (sK _ _ hr) rfl rfl ?_)|(refine cR (sK _ _ hr) rfl rfl ?_)|(refine cO (aB7 c 64 hc) rfl rfl ?_)|(refine cR (aB7 c 64 hc) rfl rfl ?_)|((first|apply cJ|apply cK|apply cI)<;>intro h<;>try simp only [h]))
 all_goals (cases hpc:plain c<;>cases hpr:plain r<;>simp_all [fS,dE]<;>omega)
theorem yY:∀ (s:List UInt8) (c:UInt8),decide (0<=Go.Lib.indexByte s c)=s.contains c
 | [],c=>by simp [Go.Lib.indexByte]
 | b :: s,c=>by
  have ih:=yY s c
  have hge:=Go.Lib.indexByte_ge s c
  unfold Go.Lib.indexByte
  by_cases h:b=c
  ·simp [h]
  ·have h1:(b == c)=false:=by simpa using h
   have h2:(b :: s).contains c=s.contains c:=by simp [List.contains_cons,h,eq_comm]
   simp only [h1,Bool.false_eq_true,if_false,h2]
   rw [<- ih]
   split
   ·rename_i h3
    have:Go.Lib.indexByte s c=-1:=by simpa using h3
    simp [this]
   ·rename_i h3
    have:Go.Lib.indexByte s c≠-1:=by simpa using h3
    apply decide_eq_decide.2
    omega
theorem kS (s:List UInt8) (c:UInt8):Fn prog 68 [.str s,.str [c]] (fun rs=>rs=[.bool (s.contains c)]) :=
 aKQ rfl rfl fun w _=>(Go.Proofs.Tryz.strings_Contains_one ⟨s.toArray⟩ c w).mono (by
  rintro e w' ⟨rfl,rfl⟩
  refine ⟨?_,mO.refl _⟩
  rw [<- yY]
  simp [r5])
theorem o8 (c r:List UInt8) (hc:c.length<=maxLen) (hr:r.length<=maxLen):Fn prog 34 [mM c r] (fun rs=>rs=[.bool (fS c r)]):=by
 refine c7 aYs [] ?_
 dsimp only [aYs,cY,dD]
 simp only [mM]
 repeat' (first|(simp only [↓wA,↓wC,wB,cQ,cP,bW,bX,bY,reduceIte,reduceCtorEq,aA,bZ])|(refine cO (fL _ _ _) rfl rfl ?_)|(refine cR (fL _ _ _) rfl rfl ?_)|(refine cO (uT _ hc) rfl rfl ?_)|(refine cR (uT _ hc) rfl rfl ?_)|(refine cO (uT _ hr) rfl rfl ?_)|(refine cR (uT _ hr) rfl rfl ?_)|(refine cO (kS c 64) rfl rfl ?_)|(refine cR (kS c 64) rfl rfl ?_)|((first|apply cJ|apply cK|apply cI)<;>intro h<;>try simp only [h]))
 all_goals (cases hpc:plain c<;>cases hpr:plain r<;>simp_all [fS,dE]<;>omega)
end Go.Pe.Tryz
namespace Go.Pe.Tryz
def aX1 (b:UInt8):Prop:=b=45\/(48<=b.toNat/\b.toNat<=57)
theorem m4:∀ (u:Nat),∀ b∈Lib.decDigits u,48<=b.toNat/\b.toNat<=57:=by
 intro u
 induction u using bL with
 | _ u ih =>
  intro b hb
  rw [Lib.decDigits] at hb
  have one:∀ d:Nat,d < 10->(aM (48 + d)).toNat=48 + d:=fun d hd=>by
   rw [UInt8.toNat_ofNat']; omega
  by_cases h:u < 10
  ·rw [dif_pos h] at hb
   simp only [aR] at hb
   rw [hb,one u h]; omega
  ·rw [dif_neg h] at hb
   rcases aP.1 hb with hb|hb
   ·exact ih (u / 10) (by omega) b hb
   ·simp only [aR] at hb
    rw [hb,one (u % 10) (by omega)]; omega
theorem aEu (n:Int):∀ b∈Lib.itoa n,aX1 b:=by
 intro b hb
 unfold Lib.itoa at hb
 split at hb
 ·rcases aJ.1 hb with hb|hb
  ·exact .inl hb
  ·exact .inr (m4 _ b hb)
 ·exact .inr (m4 _ b hb)
theorem aAO (n:Int) (c:UInt8) (hc:c≠45) (h:c.toNat < 48\/57 < c.toNat):c ∉ Lib.itoa n:=fun hm=>by
 rcases aEu n c hm with h1|h1
 ·exact hc h1
 ·omega
theorem n6 (u:Nat):Lib.decDigits u≠[]:=by
 rw [Lib.decDigits]
 by_cases h:u < 10
 ·rw [dif_pos h]; simp
 ·rw [dif_neg h]; simp
def dA (x:UInt8) (s:List UInt8):List UInt8:=s.takeWhile (· != x)
def after (x:UInt8) (s:List UInt8):List UInt8:=(s.dropWhile (· != x)).drop 1
theorem lB {x:UInt8}:∀ {s t:List UInt8},x ∉ s->dA x (s ++ x :: t)=s
 | [],t,_=>by simp [dA]
 | b :: s,t,h=>by
  simp only [aJ,not_or] at h
  have hb:(b != x)=true:=by simpa [bne_iff_ne] using fun e=>h.1 e.symm
  have:=lB (t:=t) h.2
  unfold dA at *
  simp only [aX,aQ,hb,if_true,this]
theorem oX {x:UInt8}:∀ {s t:List UInt8},x ∉ s->after x (s ++ x :: t)=t
 | [],t,_=>by simp [after]
 | b :: s,t,h=>by
  simp only [aJ,not_or] at h
  have hb:(b != x)=true:=by simpa [bne_iff_ne] using fun e=>h.1 e.symm
  have:=oX (t:=t) h.2
  unfold after at *
  simp only [aX,aL,hb,if_true,this]
theorem pK {x:UInt8}:∀ {s:List UInt8},x ∉ s->dA x s=s
 | [],_=>rfl
 | b :: s,h=>by
  simp only [aJ,not_or] at h
  have hb:(b != x)=true:=by simpa [bne_iff_ne] using fun e=>h.1 e.symm
  have:=pK h.2
  unfold dA at *
  simp only [aQ,hb,if_true,this]
theorem aEl {x:UInt8}:∀ {s:List UInt8},x ∉ s->after x s=[]
 | [],_=>rfl
 | b :: s,h=>by
  simp only [aJ,not_or] at h
  have hb:(b != x)=true:=by simpa [bne_iff_ne] using fun e=>h.1 e.symm
  have:=aEl h.2
  unfold after at *
  simp only [aL,hb,if_true,this]
theorem pQ {x:UInt8}:∀ {s:List UInt8},x∈s->s=dA x s ++ x :: after x s
 | b :: s,h=>by
  by_cases e:b=x
  ·subst e; simp [dA,after]
  ·have hb:(b != x)=true:=by simpa [bne_iff_ne] using e
   have hm:x∈s:=by
    rcases aJ.1 h with h|h
    ·exact absurd h.symm e
    ·exact h
   have ih:=pQ hm
   unfold dA after at *
   simp only [aQ,aL,hb,if_true,aX]
   rw [<- ih]
theorem oT (x:UInt8):∀ (s:List UInt8),x ∉ dA x s
 | []=>by simp [dA]
 | b :: s=>by
  by_cases e:b=x
  ·subst e; simp [dA]
  ·have hb:(b != x)=true:=by simpa [bne_iff_ne] using e
   have ih:=oT x s
   unfold dA at *
   simp only [aQ,hb,if_true,aJ,not_or]
   exact ⟨fun h=>e h.symm,ih⟩
theorem nQ (x:UInt8) (s:List UInt8):(dA x s).length<=s.length:=(List.takeWhile_sublist _).length_le
theorem oZ {x:UInt8} {s:List UInt8} (h:x∈s):(dA x s).length + 1 + (after x s).length=s.length:=by
 have:=congrArg List.length (pQ h)
 simp at this; omega
theorem aI3 {x:UInt8} (s:List UInt8):dA x s=s.take (dA x s).length:=by
 by_cases h:x∈s
 ·have h1:(dA x s ++ x :: after x s).take (dA x s).length=dA x s:=List.take_left' rfl
  rw [<- pQ h] at h1
  exact h1.symm
 ·rw [pK h,aY]
theorem zA {x:UInt8} {s:List UInt8} (h:x∈s):after x s=s.drop ((dA x s).length + 1):=by
 have h1:(dA x s ++ x :: after x s).drop ((dA x s).length + 1)=after x s:=by
  rw [<- bA,bM rfl]; rfl
 rw [<- pQ h] at h1
 exact h1.symm
def ckf (h:Int) (b:UInt8):Int:=(41 * h + (b.toNat:Int) + 1) % 999979
def ck (s:List UInt8):Int:=s.foldl ckf 7
theorem aDc (s:List UInt8):0<=ck s/\ck s < 999979:=by
 unfold ck
 have:∀ (s:List UInt8) (h:Int),0<=h/\h < 999979->0<=s.foldl ckf h/\s.foldl ckf h < 999979:=by
  intro s
  induction s with
  | nil=>intro h hh; exact hh
  | cons b s ih =>
   intro h hh
   refine ih _ ?_
   unfold ckf
   omega
 exact this s 7 (by omega)
def jN (s:List UInt8):List UInt8:=s ++ 35 :: Lib.itoa (ck s)
def body (k:Int) (c r:List UInt8):List UInt8:=Lib.itoa k ++ 32 :: (c ++ 64 :: r)
def iW (k:Int) (c r:List UInt8):List UInt8:=jN (body k c r)
theorem xP {s:List UInt8} (h:plain s=true) {x:UInt8} (hx:isP x=false):x ∉ s:=fun hm=>by
 have:=(aZ.1 h) x hm
 rw [hx] at this; cases this
theorem kJ {c r:List UInt8} (h:fS c r=true):1<=c.length/\c.length<=160/\r.length<=200/\plain c=true/\plain r=true/\(64:UInt8) ∉ c:=by
 simp only [fS,dE,aT,decide_eq_true_eq,Bool.not_eq_true'] at h
 obtain ⟨⟨⟨⟨⟨h1,h2⟩,h3⟩,h4⟩,h5⟩,h6⟩:=h
 refine ⟨by omega,by omega,by omega,h4,h5,fun hm=>?_⟩
 rw [aF.2 hm] at h6; cases h6
theorem aFx {k:Int} {c r:List UInt8} (h:fS c r=true):(35:UInt8) ∉ body k c r:=by
 obtain ⟨_,_,_,hc,hr,_⟩:=kJ h
 unfold body
 simp only [aP,aJ,not_or]
 exact ⟨aAO k 35 (by decide) (by decide),by decide,xP hc (by decide),by decide,xP hr (by decide)⟩
theorem aMN {k:Int} {c r:List UInt8} (h:fS c r=true):(10:UInt8) ∉ body k c r:=by
 obtain ⟨_,_,_,hc,hr,_⟩:=kJ h
 unfold body
 simp only [aP,aJ,not_or]
 exact ⟨aAO k 10 (by decide) (by decide),by decide,xP hc (by decide),by decide,xP hr (by decide)⟩
theorem aFQ {k:Int} {c r:List UInt8} (h:fS c r=true):(10:UInt8) ∉ iW k c r:=by
 unfold iW jN
 simp only [aP,aJ,not_or]
 exact ⟨aMN h,by decide,aAO _ 10 (by decide) (by decide)⟩
def rd (k:Int) (L:List UInt8):Option (List UInt8×List UInt8) :=
 let rest:=(dA 35 L).drop ((Lib.itoa k).length + 1)
 if fS (dA 64 rest) (after 64 rest)=true/\iW k (dA 64 rest) (after 64 rest)=L then some (dA 64 rest,after 64 rest) else none
theorem wR {k:Int} {c r:List UInt8} (h:fS c r=true):dA 35 (iW k c r)=body k c r:=lB (aFx h)
theorem aFf {k:Int} {c r:List UInt8}:(body k c r).drop ((Lib.itoa k).length + 1)=c ++ 64 :: r:=by
 unfold body
 rw [<- bA,bM rfl]; rfl
theorem w6 {k:Int} {L c r:List UInt8}:rd k L=some (c,r)↔fS c r=true/\iW k c r=L:=by
 constructor
 ·intro h
  simp only [rd] at h
  split at h
  ·rename_i h1
   injection h with h
   injection h with h2 h3
   subst h2 h3
   exact h1
  ·cases h
 ·rintro ⟨h1,rfl⟩
  have h64:=(kJ h1).2.2.2.2.2
  simp only [rd,wR h1,aFf,lB h64,oX h64]
  rw [if_pos ⟨h1,trivial⟩]
def eF:Nat->Int->List UInt8->List (List UInt8×List UInt8)×Nat
 | 0,_,_=>([],0)
 | n + 1,k,s=>if (10:UInt8)∈s then
     match rd k (dA 10 s) with
     | some e=>(e :: (eF n (k + 1) (after 10 s)).1,(dA 10 s).length + 1 + (eF n (k + 1) (after 10 s)).2)
     | none=>([],0)
  else ([],0)
theorem nZ:∀ (n:Nat) (k:Int) (s:List UInt8),(eF n k s).2<=s.length/\(eF n k s).1.length<=n
 | 0,_,_=>by simp [eF]
 | n + 1,k,s=>by
  simp only [eF]
  split
  ·rename_i h
   split
   ·have ih:=nZ n (k + 1) (after 10 s)
    have:=oZ h
    simp only [aH]
    omega
   ·simp
  ·simp
end Go.Pe.Tryz
namespace Go.Pe.Tryz
open Go.Proofs.Tryz Go.Sort
theorem mO.grow {w:World} (k:Nat) (os:Array Obj):mO w (Go.Sort.grow (w.drewN k) os):=by
 refine ⟨rfl,rfl,rfl,?_,?_⟩
 ·simp [Go.Sort.grow,World.drewN]
 ·intro b hb
  simp only [Go.Sort.grow]
  exact Array.getElem?_append_left (xs:=w.heap) (ys:=os) hb
theorem aLi (n:Int) (h:eA .i64 n):Fn prog 89 [.int .i64 n] (fun rs=>rs=[.str (Lib.itoa n)]) :=
 aKQ rfl rfl fun w hF=>(Go.Proofs.Tryz.strconv_Itoa n (by simp only [eA] at h; omega) (by simp only [eA] at h; omega) w (aXX hF)).mono (by
  rintro e w' ⟨rfl,k,os,rfl⟩
  exact ⟨rfl,mO.grow k os⟩)
theorem eZ (n:Int) (h:eA .i64 n):Fn prog 47 [.int .i64 n] (fun rs=>rs=[.str (Lib.itoa n)]):=by
 refine c7 aXB [] ?_
 dsimp only [aXB,cY,dD]
 repeat' (first|(simp only [↓wA,↓wC,wB,cQ,cP,bW,bX,bY,reduceIte,reduceCtorEq,aA,bZ])|(refine cO (aLi n h) rfl rfl ?_)|(refine cR (aLi n h) rfl rfl ?_)|((first|apply cJ|apply cK|apply cI)<;>intro h<;>try simp only [h]))
theorem aMG:∀ d:Fin 10,((([48,49,50,51,52,53,54,55,56,57]:List UInt8).take (d.val + 1)).drop d.val)=[aM (48 + d.val)]:=by decide
theorem vU {u:Nat} (h:u < 10):Lib.decDigits u=[aM (48 + u)]:=by
 rw [Lib.decDigits,dif_pos h]
theorem w8 {u:Nat} (h:¬ u < 10):Lib.decDigits u=Lib.decDigits (u / 10) ++ [aM (48 + u % 10)]:=by
 rw [Lib.decDigits,dif_neg h]
theorem aFK (d:Nat) (h:d < 10):((([48,49,50,51,52,53,54,55,56,57]:List UInt8).take (d + 1)).drop d)=[aM (48 + d)]:=aMG ⟨d,h⟩
theorem aIT (u:Nat):Lib.itoa (u:Int)=Lib.decDigits u:=by
 unfold Lib.itoa
 rw [if_neg (by omega)]
 simp
theorem aAR (u:Nat) (h:u<=9223372036854775807):(Lib.decDigits u).length<=21:=by
 rw [<- aIT]
 exact Lib.itoa_length_le (u:Int) (by omega) (by omega)
theorem eJ (n:Int) (h:eA .i64 n):(Lib.itoa n).length<=21:=by
 simp only [eA] at h
 exact Lib.itoa_length_le n (by omega) (by omega)
theorem aLW:∀ (u:Nat),u<=9223372036854775807->Fn prog 49 [.int .i64 (u:Int)] (fun rs=>rs=[.str (Lib.decDigits u)]):=by
 intro u
 induction u using bL with
 | _ u ih =>
  intro hu
  have h0:decide ((u:Int) < 0)=false:=decide_eq_false (by omega)
  refine c7 aRL [] ?_
  dsimp only [aRL,cY,dD]
  try simp only [h0,↓wA,↓wC,wB,cQ,cP,bW,bX,bY,reduceIte,reduceCtorEq,aA,bZ]
  by_cases h:u < 10
  ·have hd:decide ((u:Int) < 10)=true:=decide_eq_true (by omega)
   have hp:(0:Int)<=(u:Int):=by omega
   try simp only [hd,↓wA,↓wC,wB,cQ,cP,bW,bX,bY,reduceIte,reduceCtorEq,aA,bZ]
   refine cV (by simp only [eA]; omega) ?_
   try simp only [hd,hp,↓wA,↓wC,wB,cQ,cP,bW,bX,bY,reduceIte,reduceCtorEq,aA,bZ]
   refine cW ⟨by omega,by omega⟩ ?_
   rw [show ((u:Int) + 1).toNat=u + 1 by omega,aB,aFK u h,vU h]
  ·have hd:decide ((u:Int) < 10)=false:=decide_eq_false (by omega)
   have hq:((u:Int)).tdiv 10=((u / 10:Nat):Int):=by rw [Int.tdiv_eq_ediv_of_nonneg (by omega)]; omega
   have hr:((u:Int)).tmod 10=((u % 10:Nat):Int):=by rw [aU (by omega)]; omega
   try simp only [hd,hq,hr,↓wA,↓wC,wB,cQ,cP,bW,bX,bY,reduceIte,reduceCtorEq,aA,bZ]
   refine cW (by decide) ?_
   refine cV (by simp only [eA]; omega) ?_
   refine cR (ih (u / 10) (by omega) (by omega)) rfl rfl ?_
   try simp only [hr,↓wA,↓wC,wB,cQ,cP,bW,bX,bY,reduceIte,reduceCtorEq,aA,bZ]
   refine cW (by decide) ?_
   refine cW (by decide) ?_
   refine cV (by simp only [eA]; omega) ?_
   have hp:(0:Int)<=((u % 10:Nat):Int):=by omega
   try simp only [hp,↓wA,↓wC,wB,cQ,cP,bW,bX,bY,reduceIte,reduceCtorEq,aA,bZ]
   refine cW ⟨by omega,by omega⟩ ?_
   rw [show (((u % 10:Nat):Int) + 1).toNat=u % 10 + 1 by omega,aB,aFK (u % 10) (by omega)]
   try simp only [↓wA,↓wC,wB,cQ,cP,bW,bX,bY,reduceIte,reduceCtorEq,aA,bZ]
   refine cW (by have:=aAR (u / 10) (by omega); omega) ?_
   rw [w8 h]
theorem eW (n:Int) (h0:0<=n) (h:eA .i64 n):Fn prog 49 [.int .i64 n] (fun rs=>rs=[.str (Lib.itoa n)]):=by
 obtain ⟨u,rfl⟩:=a7 h0
 rw [aIT]
 exact aLW u (by simp only [eA] at h; omega)
theorem l6 (s:List UInt8) (hl:s.length<=maxLen):Fn prog 158 [.str s] (fun rs=>rs=[.int .i64 (ck s)]):=by
 rw [eP] at hl
 refine c7 aTG [] ?_
 dsimp only [aTG,cY,dD]
 simp only [↓wA,↓wC,wB,cQ,cP,bW,bX,bY,reduceIte,reduceCtorEq,aA,bZ]
 refine eM (fun i:Nat=>⟨[(0,.d (.str s)),(3,.d (.int .i64 (ck (s.take i)))),(6,.d (.int .i64 s.length)),(7,.d (.int .i64 i))],[]⟩)
  (fun i=>i<=s.length) (fun i=>s.length - i) 0 (cX [] rfl ⟨⟨rfl,rfl⟩,⟨rfl,rfl⟩,⟨rfl,rfl⟩,⟨rfl,rfl⟩,trivial⟩) (aV _) ?_
 rintro i hi
 by_cases hlt:i < s.length
 ·obtain ⟨b,hb⟩:=dS hlt
  have hd:decide ((i:Int) < (s.length:Int))=true:=decide_eq_true (by omega)
  have h0:(0:Int)<=(i:Int):=by omega
  have hbl:(b.toNat:Int) < 256:=by have:=b.toNat_lt; omega
  have hck:=aDc (s.take i)
  have hne:decide ((999979:Int)=0)=false:=by decide
  have hstep:ck (s.take (i + 1))=(41 * ck (s.take i) + b.toNat + 1) % 999979:=by
   have hi:=c6 hb
   rw [aG hi]
   have:s[i]=b:=by rw [List.getElem?_eq_getElem hi] at hb; injection hb
   unfold ck
   rw [bG,this]; rfl
  have htm:(41 * ck (s.take i) + b.toNat + 1).tmod 999979=ck (s.take (i + 1)):=by rw [hstep,aU (by omega)]
  have h99:(999979:Int)≠0:=by decide
  repeat' (first|(simp only [hd,h0,hb,aB,cM,htm,h99,ne_eq,not_false_eq_true,↓wA,↓wC,wB,cQ,cP,bW,bX,bY,reduceIte,reduceCtorEq,aA,bZ])|(refine cW (by decide) ?_)|(refine cV (by simp only [eA]; omega) ?_)|((first|apply cJ|apply cK|apply cI)<;>intro h<;>try simp only [h]))
  all_goals exact ⟨i + 1,cX [] rfl ⟨⟨rfl,rfl⟩,⟨rfl,rfl⟩,⟨rfl,rfl⟩,⟨rfl,rfl⟩,trivial⟩,by omega,by omega⟩
 ·have hd:decide ((i:Int) < (s.length:Int))=false:=decide_eq_false (by omega)
  simp only [hd,↓wA,↓wC,wB,cQ,cP,bW,bX,bY,reduceIte,reduceCtorEq,aA,bZ]
  rw [aI (by omega)]
theorem aAo (s:List UInt8) (hl:s.length<=maxLen):Fn prog 141 [.str s] (fun rs=>rs=[.int .i64 (ck s)]):=by
 rw [eP] at hl
 refine c7 aUK [] ?_
 dsimp only [aUK,cY,dD]
 simp only [↓wA,↓wC,wB,cQ,cP,bW,bX,bY,reduceIte,reduceCtorEq,aA,bZ]
 refine eM (fun i:Nat=>⟨[(0,.d (.str s)),(3,.d (.int .i64 (ck (s.take i)))),(4,.d (.int .i64 i))],[]⟩)
  (fun i=>i<=s.length) (fun i=>s.length - i) 0 (cX [] rfl ⟨⟨rfl,rfl⟩,⟨rfl,rfl⟩,⟨rfl,rfl⟩,trivial⟩) (aV _) ?_
 rintro i hi
 by_cases hlt:i < s.length
 ·obtain ⟨b,hb⟩:=dS hlt
  have hd:decide ((i:Int) < (s.length:Int))=true:=decide_eq_true (by omega)
  have h0:(0:Int)<=(i:Int):=by omega
  have hbl:(b.toNat:Int) < 256:=by have:=b.toNat_lt; omega
  have hck:=aDc (s.take i)
  have hstep:ck (s.take (i + 1))=(41 * ck (s.take i) + b.toNat + 1) % 999979:=by
   have hi:=c6 hb
   rw [aG hi]
   have:s[i]=b:=by rw [List.getElem?_eq_getElem hi] at hb; injection hb
   unfold ck
   rw [bG,this]; rfl
  have htm:(41 * ck (s.take i) + b.toNat + 1).tmod 999979=ck (s.take (i + 1)):=by rw [hstep,aU (by omega)]
  have h99:(999979:Int)≠0:=by decide
  repeat' (first|(simp only [hd,h0,hb,aB,cM,htm,h99,ne_eq,not_false_eq_true,↓wA,↓wC,wB,cQ,cP,bW,bX,bY,reduceIte,reduceCtorEq,aA,bZ])|(refine cW (by decide) ?_)|(refine cV (by simp only [eA]; omega) ?_)|((first|apply cJ|apply cK|apply cI)<;>intro h<;>try simp only [h]))
  all_goals exact ⟨i + 1,cX [] rfl ⟨⟨rfl,rfl⟩,⟨rfl,rfl⟩,⟨rfl,rfl⟩,trivial⟩,by omega,by omega⟩
 ·have hd:decide ((i:Int) < (s.length:Int))=false:=decide_eq_false (by omega)
  simp only [hd,↓wA,↓wC,wB,cQ,cP,bW,bX,bY,reduceIte,reduceCtorEq,aA,bZ]
  rw [aI (by omega)]
theorem qB (s:List UInt8):eA .i64 (ck s):=by
 have:=aDc s
 simp only [eA]; omega
theorem aDg (s:List UInt8):s ++ [35] ++ Lib.itoa (ck s)=jN s:=by simp [jN]
theorem aF0 (s:List UInt8) (hl:s.length<=4000):Fn prog 98 [.str s] (fun rs=>rs=[.str (jN s)]):=by
 have hm:s.length<=maxLen:=by rw [eP]; omega
 have hi:=eJ (ck s) (qB s)
 refine c7 aXT [] ?_
 dsimp only [aXT,cY,dD]
 repeat' (first|(simp only [↓wA,↓wC,wB,cQ,cP,bW,bX,bY,reduceIte,reduceCtorEq,aA,bZ])|(refine cO (aAo s hm) rfl rfl ?_)|(refine cR (aAo s hm) rfl rfl ?_)|(refine cO (eW (ck s) (aDc s).1 (qB s)) rfl rfl ?_)|(refine cR (eW (ck s) (aDc s).1 (qB s)) rfl rfl ?_)|(refine cW (by (try simp only [aC,aH,aS]); omega) ?_)|((first|apply cJ|apply cK|apply cI)<;>intro h<;>try simp only [h]))
 all_goals simp [jN]
theorem aAQ (s:List UInt8) (hl:s.length<=3000) (hs:(35:UInt8) ∉ s):Fn prog 113 [.str s] (fun rs=>rs=[.str (jN s),.bool true]):=by
 have hm:s.length<=maxLen:=by rw [eP]; omega
 have hi:=eJ (ck s) (qB s)
 have hd:decide ((s.length:Int) > 4000)=false:=decide_eq_false (by omega)
 have hd':decide ((4000:Int) < (s.length:Int))=false:=decide_eq_false (by omega)
 have hc:s.contains 35=false:=by
  cases h:s.contains 35 with
  | false=>rfl
  | true=>exact absurd (aF.1 h) hs
 have hl2:(jN s).length<=4000:=by
  simp only [jN,aC,aH]; omega
 have hd2:decide (((jN s).length:Int) > 4000)=false:=decide_eq_false (by omega)
 have hd2':decide ((4000:Int) < ((jN s).length:Int))=false:=decide_eq_false (by omega)
 have hd3:decide ((4000:Int) < ((s.length + ((Lib.itoa (ck s)).length + 1):Nat):Int))=false:=decide_eq_false (by omega)
 refine c7 aCl [] ?_
 dsimp only [aCl,cY,dD]
 repeat' (first|(simp only [hd,hd',hc,aDg,hd2,hd2',hd3,↓wA,↓wC,wB,cQ,cP,bW,bX,bY,reduceIte,reduceCtorEq,aA,bZ])|(refine cO (kS s 35) rfl rfl ?_)|(refine cR (kS s 35) rfl rfl ?_)|(refine cO (l6 s hm) rfl rfl ?_)|(refine cR (l6 s hm) rfl rfl ?_)|(refine cO (eZ (ck s) (qB s)) rfl rfl ?_)|(refine cR (eZ (ck s) (qB s)) rfl rfl ?_)|(refine cW (by (try simp only [aC,aH,aS]); omega) ?_)|((first|apply cJ|apply cK|apply cI)<;>intro h<;>try simp only [h]))
 all_goals first|rfl|(simp [jN])
theorem aLm (k:Int) (c r:List UInt8):Lib.itoa k ++ [32] ++ c ++ [64] ++ r=body k c r:=by simp [body]
theorem aAU {k:Int} {c r:List UInt8} (hk:eA .i64 k) (h:fS c r=true):(body k c r).length<=400:=by
 have:=eJ k hk
 obtain ⟨h1,h2,h3,_⟩:=kJ h
 simp only [body,aC,aH]; omega
theorem mS {k:Int} {c r:List UInt8} (hk:eA .i64 k) (h:fS c r=true):(iW k c r).length<=430:=by
 have h1:=aAU hk h
 have:=eJ (ck (body k c r)) (qB _)
 simp only [iW,jN,aC,aH]; omega
theorem aDX (k:Int) (c r:List UInt8) (h0:0<=k) (hk:eA .i64 k) (h:fS c r=true):Fn prog 62 [.int .i64 k,mM c r] (fun rs=>rs=[.str (iW k c r ++ [10])]):=by
 have hi:=eJ k hk
 obtain ⟨h1,h2,h3,_⟩:=kJ h
 have hb:=aAU hk h
 have hl:=mS hk h
 unfold iW at hl
 refine c7 aW6 [] ?_
 dsimp only [aW6,cY,dD]
 simp only [mM]
 repeat' (first|(simp only [aLm,↓wA,↓wC,wB,cQ,cP,bW,bX,bY,reduceIte,reduceCtorEq,aA,bZ])|(refine cO (eW k h0 hk) rfl rfl ?_)|(refine cR (eW k h0 hk) rfl rfl ?_)|(refine cO (aF0 (body k c r) (by omega)) rfl rfl ?_)|(refine cR (aF0 (body k c r) (by omega)) rfl rfl ?_)|(refine cW (by (try simp only [aC,aH,aS]); omega) ?_)|((first|apply cJ|apply cK|apply cI)<;>intro h<;>try simp only [h]))
 all_goals rfl
def aJz (k:Int) (c r:List UInt8):List D:=if dE k 0 59=true/\fS c r=true then [.str (iW k c r ++ [10]),.bool true] else [.str [],.bool false]
theorem aJI {k:Int} (h:dE k 0 59=true):0<=k/\eA .i64 k:=by
 simp only [dE,aT,decide_eq_true_eq] at h
 simp only [eA]; omega
theorem aFV (k:Int) (c r:List UInt8) (hc:c.length<=maxLen) (hr:r.length<=maxLen):Fn prog 74 [.int .i64 k,mM c r] (fun rs=>rs=aJz k c r):=by
 have hg:=o8 c r hc hr
 refine c7 aYy [] ?_
 dsimp only [aYy,cY,dD]
 cases h1:dE k 0 59 with
 | false =>
  have hw:=fL k 0 59
  rw [h1] at hw
  simp only [mM] at hg ⊢
  repeat' (first|(simp only [↓wA,↓wC,wB,cQ,cP,bW,bX,bY,reduceIte,reduceCtorEq,aA,bZ])|(refine cO hw rfl rfl ?_)|(refine cO hg rfl rfl ?_)|((first|apply cJ|apply cK|apply cI)<;>intro h<;>try simp only [h]))
  all_goals simp [aJz,h1]
 | true =>
  have hw:=fL k 0 59
  rw [h1] at hw
  cases h2:fS c r with
  | false =>
   rw [h2] at hg
   simp only [mM] at hg ⊢
   repeat' (first|(simp only [↓wA,↓wC,wB,cQ,cP,bW,bX,bY,reduceIte,reduceCtorEq,aA,bZ])|(refine cO hw rfl rfl ?_)|(refine cO hg rfl rfl ?_)|((first|apply cJ|apply cK|apply cI)<;>intro h<;>try simp only [h]))
   all_goals simp [aJz,h1,h2]
  | true =>
   rw [h2] at hg
   obtain ⟨h0,hk⟩:=aJI h1
   have hi:=eJ k hk
   obtain ⟨h3,h4,h5,_⟩:=kJ h2
   have hb:=aAU hk h2
   have hl:=mS hk h2
   unfold iW at hl
   have ha:=aAQ (body k c r) (by omega) (aFx h2)
   simp only [mM] at hg ⊢
   repeat' (first|(simp only [aLm,↓wA,↓wC,wB,cQ,cP,bW,bX,bY,reduceIte,reduceCtorEq,aA,bZ])|(refine cO hw rfl rfl ?_)|(refine cO hg rfl rfl ?_)|(refine cR (eZ k hk) rfl rfl ?_)|(refine cR ha rfl rfl ?_)|(refine cW (by (try simp only [aC,aH,aS]); omega) ?_)|((first|apply cJ|apply cK|apply cI)<;>intro h<;>try simp only [h]))
   all_goals simp [aJz,h1,h2,iW]
end Go.Pe.Tryz
namespace Go.Pe.Tryz
theorem index_one (x:UInt8):∀ s:List UInt8,(x∈s->Lib.index s [x]=((dA x s).length:Int))/\(x ∉ s->Lib.index s [x]=-1)
 | []=>⟨fun h=>(by cases h),fun _=>rfl⟩
 | b :: s=>by
  obtain ⟨ih1,ih2⟩:=index_one x s
  by_cases e:b=x
  ·subst e
   refine ⟨fun _=>?_,fun h=>absurd (List.mem_cons_self ..) h⟩
   have hp:([b]:List UInt8).isPrefixOf (b :: s)=true:=by simp [bP]
   rw [Lib.index,if_pos hp]
   simp [dA]
  ·have hp:([x]:List UInt8).isPrefixOf (b :: s)=false:=by
    simp only [bP,Bool.and_eq_false_iff,beq_eq_false_iff_ne]
    exact .inl fun h=>e h.symm
   have hb:(b != x)=true:=by simpa [bne_iff_ne] using e
   refine ⟨fun h=>?_,fun h=>?_⟩
   ·have hm:x∈s:=by
     rcases aJ.1 h with h|h
     ·exact absurd h.symm e
     ·exact h
    have h1:((Lib.index s [x]) == -1)=false:=by rw [ih1 hm,beq_eq_false_iff_ne]; omega
    rw [Lib.index,hp,h1,ih1 hm]
    simp [dA,aQ,hb]
   ·have hm:x ∉ s:=fun hm=>h (List.mem_cons_of_mem _ hm)
    have h1:((Lib.index s [x]) == -1)=true:=by rw [ih2 hm]; rfl
    rw [Lib.index,hp,h1]
    rfl
theorem aSh (x:UInt8) (s:List UInt8):Lib.cut s [x]=(dA x s,after x s,s.contains x):=by
 obtain ⟨h1,h2⟩:=index_one x s
 unfold Lib.cut
 by_cases h:x∈s
 ·rw [h1 h,if_pos (by omega)]
  refine Prod.ext ?_ (Prod.ext ?_ ?_)
  ·show s.take ((dA x s).length:Int).toNat=dA x s
   rw [aB,<-aI3]
  ·show s.drop (((dA x s).length:Int).toNat + [x].length)=after x s
   rw [aB,aD,<-zA h]
  ·exact (aF.2 h).symm
 ·rw [h2 h,if_neg (by omega)]
  refine Prod.ext (pK h).symm (Prod.ext (aEl h).symm ?_)
  cases hc:s.contains x with
  | false=>rfl
  | true=>exact absurd (aF.1 hc) h
def spl (x:UInt8) (s:List UInt8):Nat->List (List UInt8)×Nat
 | 0=>([],0)
 | i + 1=>match s[i]? with
  | some c=>if c=x then ((spl x s i).1 ++ [(s.take i).drop (spl x s i).2],i + 1) else spl x s i
  | none=>spl x s i
def parts (x:UInt8) (s:List UInt8):List (List UInt8):=(spl x s s.length).1 ++ [s.drop (spl x s s.length).2]
theorem aBH {x c:UInt8} {s:List UInt8} {i:Nat} (h:s[i]?=some c):spl x s (i + 1)=if c=x then ((spl x s i).1 ++ [(s.take i).drop (spl x s i).2],i + 1) else spl x s i:=by
 simp only [spl,h]
theorem aGw (x:UInt8) (s:List UInt8):∀ i,(spl x s i).2<=i/\(spl x s i).1.length<=i
 | 0=>by simp [spl]
 | i + 1=>by
  have ih:=aGw x s i
  simp only [spl]
  split
  ·split
   ·simp; omega
   ·omega
  ·omega
theorem aAg (x:UInt8) (s:List UInt8):∀ i,i<=s.length->((spl x s i).1=[]/\(spl x s i).2=0/\x ∉ s.take i)\/((spl x s i).1[0]?=some (dA x s)/\x∈s)
 | 0,_=>.inl ⟨rfl,rfl,by simp⟩
 | i + 1,h=>by
  have hi:i < s.length:=h
  have hc:s[i]?=some s[i]:=List.getElem?_eq_getElem hi
  rw [aBH hc]
  have hsp:s=s.take i ++ s[i] :: s.drop (i + 1):=by
   rw [<- aW hi,List.take_append_drop]
  have htk:s.take (i + 1)=s.take i ++ [s[i]]:=by rw [aG hi]
  rcases aAg x s i (by omega) with ⟨h1,h2,h3⟩|⟨h1,h2⟩
  ·split
   ·rename_i e
    right
    refine ⟨?_,e ▸ List.getElem_mem hi⟩
    rw [h1,h2]
    have:dA x s=s.take i:=by
     have h4:=lB (t:=s.drop (i + 1)) h3
     rw [<- e,<-hsp] at h4
     rw [<- e]; exact h4
    simp [this]
   ·rename_i e
    left
    refine ⟨h1,h2,?_⟩
    rw [htk,aP,aR]
    rintro (h|h)
    ·exact h3 h
    ·exact e h.symm
  ·right
   split
   ·refine ⟨?_,h2⟩
    rw [List.getElem?_append_left (c6 h1)]; exact h1
   ·exact ⟨h1,h2⟩
theorem rT (x:UInt8) (s:List UInt8):(parts x s)[0]?=some (dA x s):=by
 unfold parts
 rcases aAg x s s.length (bU _) with ⟨h1,h2,h3⟩|⟨h1,h2⟩
 ·rw [aY] at h3
  rw [h1,h2,pK h3]; rfl
 ·rw [List.getElem?_append_left (c6 h1)]; exact h1
theorem aFw (x:UInt8) (s:List UInt8):(parts x s).length < 2↔x ∉ s:=by
 unfold parts
 rcases aAg x s s.length (bU _) with ⟨h1,h2,h3⟩|⟨h1,h2⟩
 ·rw [aY] at h3
  rw [h1]
  simp [h3]
 ·have:=c6 h1
  simp only [aC,aD]
  constructor
  ·intro h; omega
  ·intro h; exact absurd h2 h
theorem aBi (x:UInt8) (s:List UInt8):(parts x s).length<=s.length + 1:=by
 unfold parts
 have:=(aGw x s s.length).2
 simp; omega
theorem aDJ {k:Int} {c r:List UInt8} (h:fS c r=true):jN (dA 35 (iW k c r))=iW k c r/\dA 35 (iW k c r)=body k c r/\after 32 (body k c r)=c ++ 64 :: r/\dA 64 (c ++ 64 :: r)=c/\after 64 (c ++ 64 :: r)=r:=by
 have h64:=(kJ h).2.2.2.2.2
 have h32:(32:UInt8) ∉ Lib.itoa k:=aAO k 32 (by decide) (by decide)
 refine ⟨by rw [wR h]; rfl,wR h,?_,lB h64,oX h64⟩
 unfold body
 exact oX h32
theorem aSa {k:Int} {L:List UInt8} (h:rd k L=none) (c r:List UInt8) (hok:fS c r=true):¬ iW k c r=L:=fun e=>by
 rw [w6.2 ⟨hok,e⟩] at h
 cases h
theorem jF {n:Nat} {k:Int} {s:List UInt8} {e:List UInt8×List UInt8} (iY:(10:UInt8)∈s) (h:rd k (dA 10 s)=some e):eF (n + 1) k s=(e :: (eF n (k + 1) (after 10 s)).1,(dA 10 s).length + 1 + (eF n (k + 1) (after 10 s)).2):=by
 simp only [eF,iY,if_true,h]
theorem kC {n:Nat} {k:Int} {s:List UInt8} (h:(10:UInt8) ∉ s):eF n k s=([],0):=by
 cases n with
 | zero=>rfl
 | succ n=>simp only [eF,h,if_false]
theorem o5 {n:Nat} {k:Int} {s:List UInt8} (h:rd k (dA 10 s)=none):eF n k s=([],0):=by
 cases n with
 | zero=>rfl
 | succ n=>simp only [eF,h]; split<;>rfl
theorem aCd {B:Nat} (hB:∀ (k:Int) (c r:List UInt8),0<=k->k<=60->fS c r=true->(iW k c r).length<=B):∀ (n:Nat) (k:Int) (s:List UInt8),0<=k->k + n<=60->(eF n k s).2<=(B + 1) * n
 | 0,_,_,_,_=>by simp [eF]
 | n + 1,k,s,h0,h1=>by
  by_cases iY:(10:UInt8)∈s
  ·cases hr:rd k (dA 10 s) with
   | none=>rw [o5 hr]; simp
   | some d =>
    rw [jF iY hr]
    obtain ⟨hok,hl⟩:=w6.1 hr
    have:=hB k d.1 d.2 h0 (by omega) hok
    rw [hl] at this
    have ih:=aCd hB n (k + 1) (after 10 s) (by omega) (by omega)
    simp only [Nat.mul_succ]
    omega
  ·rw [kC iY]; simp
def vfy (s:List UInt8):Bool:=decide ((dA 35 s).length<=4000/\(jN (dA 35 s)).length<=4000/\jN (dA 35 s)=s)
def aIu (L:List UInt8):List UInt8:=after 32 (if vfy L=true then dA 35 L else [])
def y0 (L:List UInt8):List UInt8×List UInt8:=(dA 64 (aIu L),after 64 (aIu L))
theorem aIn (x:UInt8) (s:List UInt8):(after x s).length<=s.length:=by
 unfold after
 have:=(a8 (p:=(· != x)) (l:=s)).length_le
 simp only [aO]; omega
theorem aVY (L:List UInt8):(aIu L).length<=L.length/\(y0 L).1.length<=L.length/\(y0 L).2.length<=L.length:=by
 have h1:(aIu L).length<=L.length:=by
  unfold aIu
  split
  ·exact bD (aIn 32 _) (nQ 35 L)
  ·simp [after]
 exact ⟨h1,bD (nQ 64 _) h1,bD (aIn 64 _) h1⟩
theorem aVS {k:Int} {L:List UInt8} (hb:∀ c r:List UInt8,fS c r=true->(body k c r).length<=4000/\(iW k c r).length<=4000) :
  rd k L=if fS (y0 L).1 (y0 L).2=true/\iW k (y0 L).1 (y0 L).2=L then some (y0 L) else none:=by
 cases h:rd k L with
 | none =>
  rw [if_neg]
  rintro ⟨h1,h2⟩
  exact aSa h _ _ h1 h2
 | some e =>
  obtain ⟨c,r⟩:=e
  obtain ⟨h1,h2⟩:=w6.1 h
  obtain ⟨p1,p2,p3,p4,p5⟩:=aDJ (k:=k) h1
  rw [h2] at p1 p2
  obtain ⟨b1,b2⟩:=hb c r h1
  have hv:vfy L=true:=decide_eq_true ⟨by rw [p2]; exact b1,by rw [p1,<-h2]; exact b2,p1⟩
  have hn:y0 L=(c,r):=by
   unfold y0 aIu
   rw [if_pos hv,p2,p3,p4,p5]
  rw [hn,if_pos ⟨h1,h2⟩]
def oE (k:Int) (L:List UInt8):List UInt8:=(dA 35 L).drop ((Lib.itoa k).length + 1)
def rdv (k:Int) (L:List UInt8):(List UInt8×List UInt8)×Bool :=
 if (dA 35 L).length < (Lib.itoa k).length + 1\/(dA 35 L).take ((Lib.itoa k).length + 1)≠Lib.itoa k ++ [32] then (([],[]),false)
 else if (64:UInt8) ∉ oE k L then (([],[]),false)
 else ((dA 64 (oE k L),after 64 (oE k L)),fS (dA 64 (oE k L)) (after 64 (oE k L)) && decide (iW k (dA 64 (oE k L)) (after 64 (oE k L))=L))
theorem aU5 (k:Int) (L:List UInt8):rd k L=if (rdv k L).2=true then some (rdv k L).1 else none:=by
 by_cases h1:(dA 35 L).length < (Lib.itoa k).length + 1\/(dA 35 L).take ((Lib.itoa k).length + 1)≠Lib.itoa k ++ [32]
 ·unfold rdv
  rw [if_pos h1]
  cases h:rd k L with
  | none=>rfl
  | some e =>
   obtain ⟨c,r⟩:=e
   obtain ⟨h2,h3⟩:=w6.1 h
   have hp:=(aDJ (k:=k) h2).2.1
   rw [h3] at hp
   exfalso
   rw [hp] at h1
   rcases h1 with h1|h1
   ·simp [body] at h1
   ·apply h1
    unfold body
    rw [List.take_append,aI (by omega),show (Lib.itoa k).length + 1 - (Lib.itoa k).length=1 by omega]; rfl
 ·by_cases h4:(64:UInt8) ∉ oE k L
  ·unfold rdv
   rw [if_neg h1,if_pos h4]
   cases h:rd k L with
   | none=>rfl
   | some e =>
    obtain ⟨c,r⟩:=e
    obtain ⟨h2,h3⟩:=w6.1 h
    have hp:=(aDJ (k:=k) h2).2.1
    rw [h3] at hp
    exfalso
    apply h4
    unfold oE
    rw [hp,aFf]
    simp
  ·unfold rdv
   rw [if_neg h1,if_neg h4]
   unfold rd
   show (if fS (dA 64 (oE k L)) (after 64 (oE k L))=true/\iW k (dA 64 (oE k L)) (after 64 (oE k L))=L then _ else _)=_
   by_cases h5:fS (dA 64 (oE k L)) (after 64 (oE k L))=true
   ·by_cases h6:iW k (dA 64 (oE k L)) (after 64 (oE k L))=L
    ·rw [if_pos ⟨h5,h6⟩]; simp only [h5,h6,decide_true,bR,if_true]; rfl
    ·rw [if_neg (fun h=>h6 h.2)]; simp [h6]
   ·rw [if_neg (fun h=>h5 h.1)]; simp [h5]
structure Reads (s:List UInt8) (p:List (List UInt8×List UInt8)×Nat):Prop where
 len:p.1.length<=60
 pos:p.2<=s.length
 all:eF 60 0 s=(p.1 ++ (eF (60 - p.1.length) p.1.length (s.drop p.2)).1,p.2 + (eF (60 - p.1.length) p.1.length (s.drop p.2)).2)
theorem aZS (s:List UInt8):Reads s ([],0):=⟨by simp,by simp,by simp⟩
theorem Reads.stop10 {s p} (h:Reads s p) (iY:(10:UInt8) ∉ s.drop p.2):eF 60 0 s=p:=by
 rw [h.all,kC iY]; simp
theorem Reads.stopRd {s p} (h:Reads s p) (hr:rd (p.1.length:Int) (dA 10 (s.drop p.2))=none):eF 60 0 s=p:=by
 rw [h.all,o5 hr]; simp
theorem Reads.stopLen {s p} (h:Reads s p) (hr:¬ p.1.length < 60):eF 60 0 s=p:=by
 rw [h.all,show 60 - p.1.length=0 by have:=h.len; omega]; simp [eF]
theorem Reads.stopEnd {s p} (h:Reads s p) (hr:¬ p.2 < s.length):eF 60 0 s=p:=by
 refine h.stop10 ?_
 rw [List.drop_of_length_le (by omega)]; simp
theorem Reads.next {s p e} (h:Reads s p) (hl:p.1.length < 60) (iY:(10:UInt8)∈s.drop p.2) (hr:rd (p.1.length:Int) (dA 10 (s.drop p.2))=some e) :
  Reads s (p.1 ++ [e],p.2 + ((dA 10 (s.drop p.2)).length + 1)):=by
 have hal:=oZ iY
 rw [aO] at hal
 have hp:=h.pos
 refine ⟨by simp; omega,by show p.2 + _<=_; omega,?_⟩
 have hn:60 - p.1.length=(60 - (p.1.length + 1)) + 1:=by omega
 have hd:s.drop (p.2 + ((dA 10 (s.drop p.2)).length + 1))=after 10 (s.drop p.2):=by rw [zA iY,bA]
 rw [h.all,hn,jF iY hr]
 simp only [aC,aD,hd]
 refine Prod.ext ?_ ?_
 ·simp
 ·simp; omega
end Go.Pe.Tryz
namespace Go.Pe.Tryz
open Go.Proofs.Tryz Go.Sort
theorem aGH (s:List UInt8) (x:UInt8) (hl:s.length<=4000000000):Fn prog 94 [.str s,.str [x]] (fun rs=>rs=[.str (dA x s),.str (after x s),.bool (s.contains x)]) :=
 aKQ rfl rfl fun w hF=>by
  obtain ⟨m,hm⟩:=aTJ hF
  refine (Go.Proofs.Tryz.strings_Cut ⟨s.toArray⟩ ⟨#[x]⟩ m w (by show s.toArray.size < _; simp; omega) hm).mono ?_
  rintro e w' ⟨rfl,n,rfl⟩
  refine ⟨?_,mO.drewN n⟩
  have hc:Lib.cut s [x]=(dA x s,after x s,s.contains x):=aSh x s
  simp only [hc]
  rfl
theorem aC9 (L:List (List UInt8)) (s:List UInt8):(dl D.str L).app (D.cons (.str s) .nil)=dl D.str (L ++ [s]):=iT (f:=D.str) L s
theorem aMt (L:List (List UInt8)):(dl D.str L).noOwn=true:=pO (fun _=>rfl) L
theorem yA (L:List (List UInt8)):(dl D.str L).unown=dl D.str L:=s7 (fun _=>rfl) L
theorem o6 (s:List UInt8) (x:UInt8) (hl:s.length<=1000000000):Fn prog 46 [.str s,.int .u8 (x.toNat:Int)] (fun rs=>rs=[.sl true 1 (dl D.str (parts x s))]):=by
 refine c7 aYz [] ?_
 dsimp only [aYz,cY,dD]
 repeat' (first|(simp only [cM,↓wA,↓wC,wB,cQ,cP,bW,bX,bY,reduceIte,reduceCtorEq,aA,bZ])|((first|apply cJ|apply cK|apply cI)<;>intro h<;>try simp only [h]))
 refine dU s.length (fun i:Nat=>⟨[(0,.d (.str s)),(1,.d (.int .u8 (x.toNat:Int))),(5,.own 0),(6,.d (.int .i64 (spl x s i).2)),(7,.d (.int .i64 i))],[.val (.sl true 1 (dl D.str (spl x s i).1))]⟩) (fun _=>True) (cX _ rfl ⟨⟨rfl,rfl⟩,⟨rfl,rfl⟩,⟨rfl,rfl⟩,⟨rfl,rfl⟩,⟨rfl,rfl⟩,trivial⟩) trivial ?_ ?_
 ·intro i hi _ hd h0
  obtain ⟨b,hb⟩:=dS hi
  have hbc:decide ((b.toNat:Int)=(x.toNat:Int))=decide (b=x):=by
   apply decide_eq_decide.2
   constructor
   ·intro h; exact bK.1 (by omega)
   ·intro h; rw [h]
  have hbd:=aGw x s i
  have hup:=aBH (x:=x) hb
  by_cases hc:b=x
  ·rw [if_pos hc] at hup
   repeat' (first|(simp only [hd,h0,hb,aB,cM,hbc,hc,↓wA,↓wC,wB,cQ,cP,bW,bX,bY,reduceIte,reduceCtorEq,aA,bZ])|(refine cW (fun h=>by cases h) ?_)|(with_reducible refine cW ?_ ?_; focus ((try simp only [cU]); omega))|(refine cV (by simp only [eA]; omega) ?_)|((first|apply cJ|apply cK|apply cI)<;>intro h<;>try simp only [h]))
   all_goals (refine ⟨i + 1,?_,by omega,by omega⟩; rw [hup]; (try simp only [aC9]); exact (cX _ rfl ⟨⟨rfl,rfl⟩,⟨rfl,rfl⟩,⟨rfl,rfl⟩,⟨rfl,rfl⟩,⟨rfl,rfl⟩,trivial⟩))
  ·rw [if_neg hc] at hup
   repeat' (first|(simp only [hd,h0,hb,aB,cM,hbc,hc,↓wA,↓wC,wB,cQ,cP,bW,bX,bY,reduceIte,reduceCtorEq,aA,bZ])|(refine cW (fun h=>by cases h) ?_)|(with_reducible refine cW ?_ ?_; focus ((try simp only [cU]); omega))|(refine cV (by simp only [eA]; omega) ?_)|((first|apply cJ|apply cK|apply cI)<;>intro h<;>try simp only [h]))
   all_goals (refine ⟨i + 1,?_,by omega,by omega⟩; rw [hup]; (try simp only [aC9]); exact (cX _ rfl ⟨⟨rfl,rfl⟩,⟨rfl,rfl⟩,⟨rfl,rfl⟩,⟨rfl,rfl⟩,⟨rfl,rfl⟩,trivial⟩))
 ·intro _ hd
  have hbd:=aGw x s s.length
  repeat' (first|(simp only [hd,cM,aB,↓wA,↓wC,wB,cQ,cP,bW,bX,bY,reduceIte,reduceCtorEq,aA,bZ])|(refine cW (fun h=>by cases h) ?_)|(with_reducible refine cW ?_ ?_; focus ((try simp only [cU]); omega))|((first|apply cJ|apply cK|apply cI)<;>intro h<;>try simp only [h]))
  all_goals (simp only [aC9]; rfl)
theorem aNS (s:List UInt8):(jN s).length=s.length + 1 + (Lib.itoa (ck s)).length:=by simp [jN]; omega
theorem aEZ (s:List UInt8) (hl:s.length<=1000000000) (hs:(35:UInt8) ∉ s):Fn prog 113 [.str s] (fun rs=>rs=if s.length<=4000/\(jN s).length<=4000 then [.str (jN s),.bool true] else [.str [],.bool false]):=by
 have hm:s.length<=maxLen:=by rw [eP]; omega
 have hi:=eJ (ck s) (qB s)
 have hsl:=aNS s
 have hc:s.contains 35=false:=by
  cases h:s.contains 35 with
  | false=>rfl
  | true=>exact absurd (aF.1 h) hs
 by_cases h1:s.length<=4000
 ·have hd':decide ((4000:Int) < (s.length:Int))=false:=decide_eq_false (by omega)
  by_cases h2:(jN s).length<=4000
  ·rw [if_pos ⟨h1,h2⟩]
   have hd2':decide ((4000:Int) < ((jN s).length:Int))=false:=decide_eq_false (by omega)
   have hd3:decide ((4000:Int) < ((s.length + ((Lib.itoa (ck s)).length + 1):Nat):Int))=false:=decide_eq_false (by omega)
   refine c7 aCl [] ?_
   dsimp only [aCl,cY,dD]
   repeat' (first|(simp only [hd',hc,aDg,hd2',hd3,↓wA,↓wC,wB,cQ,cP,bW,bX,bY,reduceIte,reduceCtorEq,aA,bZ])|(refine cO (kS s 35) rfl rfl ?_)|(refine cR (kS s 35) rfl rfl ?_)|(refine cO (l6 s hm) rfl rfl ?_)|(refine cR (l6 s hm) rfl rfl ?_)|(refine cO (eZ (ck s) (qB s)) rfl rfl ?_)|(refine cR (eZ (ck s) (qB s)) rfl rfl ?_)|(refine cW (by (try simp only [aC,aH,aS]); omega) ?_)|((first|apply cJ|apply cK|apply cI)<;>intro h<;>try simp only [h]))
   all_goals first|rfl|(simp [jN])
  ·rw [if_neg (fun h=>h2 h.2)]
   have hd2':decide ((4000:Int) < ((jN s).length:Int))=true:=decide_eq_true (by omega)
   have hd3:decide ((4000:Int) < ((s.length + ((Lib.itoa (ck s)).length + 1):Nat):Int))=true:=decide_eq_true (by omega)
   refine c7 aCl [] ?_
   dsimp only [aCl,cY,dD]
   repeat' (first|(simp only [hd',hc,aDg,hd2',hd3,↓wA,↓wC,wB,cQ,cP,bW,bX,bY,reduceIte,reduceCtorEq,aA,bZ])|(refine cO (kS s 35) rfl rfl ?_)|(refine cR (kS s 35) rfl rfl ?_)|(refine cO (l6 s hm) rfl rfl ?_)|(refine cR (l6 s hm) rfl rfl ?_)|(refine cO (eZ (ck s) (qB s)) rfl rfl ?_)|(refine cR (eZ (ck s) (qB s)) rfl rfl ?_)|(refine cW (by (try simp only [aC,aH,aS]); omega) ?_)|((first|apply cJ|apply cK|apply cI)<;>intro h<;>try simp only [h]))
   all_goals first|rfl|(simp [jN])
 ·rw [if_neg (fun h=>h1 h.1)]
  have hd':decide ((4000:Int) < (s.length:Int))=true:=decide_eq_true (by omega)
  refine c7 aCl [] ?_
  dsimp only [aCl,cY,dD]
  repeat' (first|(simp only [hd',↓wA,↓wC,wB,cQ,cP,bW,bX,bY,reduceIte,reduceCtorEq,aA,bZ])|((first|apply cJ|apply cK|apply cI)<;>intro h<;>try simp only [h]))
  all_goals rfl
theorem aNv (s:List UInt8) (hl:s.length<=1000000000):Fn prog 95 [.str s] (fun rs=>rs=if vfy s=true then [.str (dA 35 s),.bool true] else [.str [],.bool false]):=by
 have hb:=nQ 35 s
 have hC:=aGH s 35 (by omega)
 have hA:=aEZ (dA 35 s) (by omega) (oT 35 s)
 by_cases h1:(dA 35 s).length<=4000/\(jN (dA 35 s)).length<=4000
 ·rw [if_pos h1] at hA
  by_cases h2:jN (dA 35 s)=s
  ·have hv:vfy s=true:=decide_eq_true ⟨h1.1,h1.2,h2⟩
   have hd:decide (jN (dA 35 s)=s)=true:=decide_eq_true h2
   rw [if_pos hv]
   refine c7 aMy [] ?_
   dsimp only [aMy,cY,dD]
   repeat' (first|(simp only [hd,↓wA,↓wC,wB,cQ,cP,bW,bX,bY,reduceIte,reduceCtorEq,aA,bZ])|(refine cO (hC) rfl rfl ?_)|(refine cR (hC) rfl rfl ?_)|(refine cO (hA) rfl rfl ?_)|(refine cR (hA) rfl rfl ?_)|((first|apply cJ|apply cK|apply cI)<;>intro h<;>try simp only [h]))
   all_goals trace_state
  ·have hv:¬ vfy s=true:=fun h=>h2 (of_decide_eq_true h).2.2
   have hd:decide (jN (dA 35 s)=s)=false:=decide_eq_false h2
   rw [if_neg hv]
   refine c7 aMy [] ?_
   dsimp only [aMy,cY,dD]
   repeat' (first|(simp only [hd,↓wA,↓wC,wB,cQ,cP,bW,bX,bY,reduceIte,reduceCtorEq,aA,bZ])|(refine cO (hC) rfl rfl ?_)|(refine cR (hC) rfl rfl ?_)|(refine cO (hA) rfl rfl ?_)|(refine cR (hA) rfl rfl ?_)|((first|apply cJ|apply cK|apply cI)<;>intro h<;>try simp only [h]))
   all_goals trace_state
 ·rw [if_neg h1] at hA
  have hv:¬ vfy s=true:=fun h=>h1 ⟨(of_decide_eq_true h).1,(of_decide_eq_true h).2.1⟩
  rw [if_neg hv]
  refine c7 aMy [] ?_
  dsimp only [aMy,cY,dD]
  repeat' (first|(simp only [↓wA,↓wC,wB,cQ,cP,bW,bX,bY,reduceIte,reduceCtorEq,aA,bZ])|(refine cO (hC) rfl rfl ?_)|(refine cR (hC) rfl rfl ?_)|(refine cO (hA) rfl rfl ?_)|(refine cR (hA) rfl rfl ?_)|((first|apply cJ|apply cK|apply cI)<;>intro h<;>try simp only [h]))
  all_goals trace_state
def kU (e:List UInt8×List UInt8):D:=.st (.cons (.str e.1) (.cons (.str e.2) .nil))
theorem nK (L:List (List UInt8×List UInt8)):(dl kU L).noOwn=true:=pO (fun _=>rfl) L
theorem aQp (L:List (List UInt8×List UInt8)) (e:List UInt8×List UInt8):(dl kU L).app (D.cons (.st (.cons (.str e.1) (.cons (.str e.2) .nil))) .nil)=dl kU (L ++ [e]):=iT (f:=kU) L e
theorem xR {n:Nat} (h:n<=60):eA .i64 (n:Int):=by simp only [eA]; omega
theorem aRe {n:Nat} (hn:n<=60):∀ c r:List UInt8,fS c r=true->(body n c r).length<=4000/\(iW n c r).length<=4000:=fun c r h=>by
 have h1:=aAU (xR hn) h
 have h2:=mS (xR hn) h
 omega
def rrS (s:List UInt8) (p:List (List UInt8×List UInt8)×Nat):St:=⟨[(0,.d (.str s)),(4,.own 0),(5,.d (.int .i64 p.2))],[.val (.sl true 2 (dl kU p.1))]⟩
theorem rY (s:List UInt8) (hl:s.length<=100000000):Fn prog 58 [.str s] (fun rs=>rs=[.sl true 2 (dl kU (eF 60 0 s).1),.int .i64 ((eF 60 0 s).2:Nat)]):=by
 refine c7 aYi [] ?_
 dsimp only [aYi,cY,dD]
 repeat' (first|(simp only [cM,↓wA,↓wC,wB,cQ,cP,bW,bX,bY,reduceIte,reduceCtorEq,aA,bZ,mR])|((first|apply cJ|apply cK|apply cI)<;>intro h<;>try simp only [h]))
 refine aED [(4,2)] (rrS s) (Reads s) (fun p=>60 - p.1.length) ([],0) ⟨rfl,trivial⟩ ?_ (aZS s) ?_
 ·exact (cX _ rfl ⟨⟨rfl,rfl⟩,⟨rfl,rfl⟩,⟨rfl,rfl⟩,trivial⟩)
 intro p hp
 have hpl:=hp.pos
 have h60:=hp.len
 have hE:=nZ 60 0 s
 unfold rrS
 by_cases hlt:p.1.length < 60
 ·have hd:decide ((p.1.length:Int) < 60)=true:=decide_eq_true (by omega)
  have hdr:(s.drop p.2).length<=100000000:=by rw [aO]; omega
  have hC1:=aGH (s.drop p.2) 10 (by omega)
  by_cases iY:(10:UInt8)∈s.drop p.2
  ·have hc10:(s.drop p.2).contains 10=true:=aF.2 iY
   rw [hc10] at hC1
   have hbl:=nQ 10 (s.drop p.2)
   have hV:=aNv (dA 10 (s.drop p.2)) (by omega)
   have hal:=oZ iY
   have hnl:=aVY (dA 10 (s.drop p.2))
   have hC2:=aGH (if vfy (dA 10 (s.drop p.2))=true then dA 35 (dA 10 (s.drop p.2)) else []) 32 (by
    split
    ·have:=nQ 35 (dA 10 (s.drop p.2)); omega
    ·simp)
   have hC3:=aGH (aIu (dA 10 (s.drop p.2))) 64 (by omega)
   have hEn:=aFV (p.1.length:Int) (y0 (dA 10 (s.drop p.2))).1 (y0 (dA 10 (s.drop p.2))).2 (by rw [eP]; omega) (by rw [eP]; omega)
   have hV':Fn prog 95 [.str (dA 10 (s.drop p.2))] (fun rs=>rs=[.str (if vfy (dA 10 (s.drop p.2))=true then dA 35 (dA 10 (s.drop p.2)) else []),.bool (vfy (dA 10 (s.drop p.2)))]):=by
    cases hv:vfy (dA 10 (s.drop p.2))<;>rw [hv] at hV<;>simpa using hV
   have hw:dE (p.1.length:Int) 0 59=true:=by simp [dE]; omega
   have hrd:=aVS (k:=(p.1.length:Int)) (L:=dA 10 (s.drop p.2)) (aRe (by omega))
   change Fn prog _ _ (fun rs=>rs=[_,.str (aIu (dA 10 (s.drop p.2))),_]) at hC2
   change Fn prog _ _ (fun rs=>rs=[.str (y0 (dA 10 (s.drop p.2))).1,.str (y0 (dA 10 (s.drop p.2))).2,_]) at hC3
   have hn:kU (y0 (dA 10 (s.drop p.2)))=mM (y0 (dA 10 (s.drop p.2))).1 (y0 (dA 10 (s.drop p.2))).2:=rfl
   by_cases hok:fS (y0 (dA 10 (s.drop p.2))).1 (y0 (dA 10 (s.drop p.2))).2=true
   ·have hEq:aJz (p.1.length:Int) (y0 (dA 10 (s.drop p.2))).1 (y0 (dA 10 (s.drop p.2))).2=[.str (iW (p.1.length:Int) (y0 (dA 10 (s.drop p.2))).1 (y0 (dA 10 (s.drop p.2))).2 ++ [10]),.bool true]:=if_pos ⟨hw,hok⟩
    rw [hEq] at hEn
    have hll:=mS (xR h60) hok
    by_cases hln:iW (p.1.length:Int) (y0 (dA 10 (s.drop p.2))).1 (y0 (dA 10 (s.drop p.2))).2=dA 10 (s.drop p.2)
    ·rw [if_pos ⟨hok,hln⟩] at hrd
     have hnx:=hp.next hlt iY hrd
     rw [hln] at hEn
     generalize y0 (dA 10 (s.drop p.2))=e at *
     generalize dA 10 (s.drop p.2)=L at *
     repeat' (first|(simp only [hd,cU,hrd,cM,aB,decide_true,↓wA,↓wC,wB,cQ,cP,bW,bX,bY,reduceIte,reduceCtorEq,aA,bZ,mR])|(refine cO (hC1) rfl rfl ?_)|(refine cR (hC1) rfl rfl ?_)|(refine cO (hV') rfl rfl ?_)|(refine cR (hV') rfl rfl ?_)|(refine cO (hC2) rfl rfl ?_)|(refine cR (hC2) rfl rfl ?_)|(refine cO (hC3) rfl rfl ?_)|(refine cR (hC3) rfl rfl ?_)|(refine cO (hEn) rfl rfl ?_)|(refine cR (hEn) rfl rfl ?_)|(with_reducible refine cW ?_ ?_; focus omega)|(with_reducible refine cW ?_ ?_; focus (simp; done))|(with_reducible refine cW ?_ ?_; focus (simp only [aC,aD]; omega))|(with_reducible refine cV ?_ ?_; focus (simp only [eA]; omega))|((first|apply cJ|apply cK|apply cI)<;>intro h<;>try simp only [h]))
     all_goals
      refine ⟨(p.1 ++ [e],p.2 + (L.length + 1)),?_,hnx,by simp only [aC,aD]; omega⟩
      rw [aQp]
      exact (cX _ rfl ⟨⟨rfl,rfl⟩,⟨rfl,rfl⟩,⟨rfl,rfl⟩,trivial⟩)
    ·rw [if_neg (fun h=>hln h.2)] at hrd
     have hst:=hp.stopRd hrd
     have hne:decide (iW (p.1.length:Int) (y0 (dA 10 (s.drop p.2))).1 (y0 (dA 10 (s.drop p.2))).2 ++ [10]=dA 10 (s.drop p.2) ++ [10])=false:=decide_eq_false fun h=>hln (a6 h)
     generalize y0 (dA 10 (s.drop p.2))=e at *
     generalize dA 10 (s.drop p.2)=L at *
     repeat' (first|(simp only [hd,cU,hrd,cM,aB,decide_true,hne,↓wA,↓wC,wB,cQ,cP,bW,bX,bY,reduceIte,reduceCtorEq,aA,bZ,mR])|(refine cO (hC1) rfl rfl ?_)|(refine cR (hC1) rfl rfl ?_)|(refine cO (hV') rfl rfl ?_)|(refine cR (hV') rfl rfl ?_)|(refine cO (hC2) rfl rfl ?_)|(refine cR (hC2) rfl rfl ?_)|(refine cO (hC3) rfl rfl ?_)|(refine cR (hC3) rfl rfl ?_)|(refine cO (hEn) rfl rfl ?_)|(refine cR (hEn) rfl rfl ?_)|(with_reducible refine cW ?_ ?_; focus omega)|(with_reducible refine cW ?_ ?_; focus (simp; done))|(with_reducible refine cW ?_ ?_; focus (simp only [aC,aD]; omega))|(with_reducible refine cV ?_ ?_; focus (simp only [eA]; omega))|((first|apply cJ|apply cK|apply cI)<;>intro h<;>try simp only [h]))
     all_goals (rw [hst])
   ·rw [if_neg (fun h=>hok h.1)] at hrd
    have hst:=hp.stopRd hrd
    have hEq:aJz (p.1.length:Int) (y0 (dA 10 (s.drop p.2))).1 (y0 (dA 10 (s.drop p.2))).2=[.str [],.bool false]:=if_neg (fun h=>hok h.2)
    rw [hEq] at hEn
    generalize y0 (dA 10 (s.drop p.2))=e at *
    generalize dA 10 (s.drop p.2)=L at *
    repeat' (first|(simp only [hd,cU,hrd,cM,aB,decide_true,↓wA,↓wC,wB,cQ,cP,bW,bX,bY,reduceIte,reduceCtorEq,aA,bZ,mR])|(refine cO (hC1) rfl rfl ?_)|(refine cR (hC1) rfl rfl ?_)|(refine cO (hV') rfl rfl ?_)|(refine cR (hV') rfl rfl ?_)|(refine cO (hC2) rfl rfl ?_)|(refine cR (hC2) rfl rfl ?_)|(refine cO (hC3) rfl rfl ?_)|(refine cR (hC3) rfl rfl ?_)|(refine cO (hEn) rfl rfl ?_)|(refine cR (hEn) rfl rfl ?_)|(with_reducible refine cW ?_ ?_; focus omega)|(with_reducible refine cW ?_ ?_; focus (simp; done))|(with_reducible refine cW ?_ ?_; focus (simp only [aC,aD]; omega))|(with_reducible refine cV ?_ ?_; focus (simp only [eA]; omega))|((first|apply cJ|apply cK|apply cI)<;>intro h<;>try simp only [h]))
    all_goals (rw [hst])
  ·have hc10:(s.drop p.2).contains 10=false:=by
    cases h:(s.drop p.2).contains 10 with
    | false=>rfl
    | true=>exact absurd (aF.1 h) iY
   rw [hc10] at hC1
   have hst:=hp.stop10 iY
   repeat' (first|(simp only [hd,cU,cM,aB,↓wA,↓wC,wB,cQ,cP,bW,bX,bY,reduceIte,reduceCtorEq,aA,bZ,mR])|(refine cO (hC1) rfl rfl ?_)|(refine cR (hC1) rfl rfl ?_)|(with_reducible refine cW ?_ ?_; focus omega)|((first|apply cJ|apply cK|apply cI)<;>intro h<;>try simp only [h]))
   all_goals (rw [hst])
 ·have hd:decide ((p.1.length:Int) < 60)=false:=decide_eq_false (by omega)
  have hst:=hp.stopLen hlt
  repeat' (first|(simp only [hd,cU,cM,aB,↓wA,↓wC,wB,cQ,cP,bW,bX,bY,reduceIte,reduceCtorEq,aA,bZ,mR])|((first|apply cJ|apply cK|apply cI)<;>intro h<;>try simp only [h]))
  all_goals (rw [hst])
theorem aJN (k:Int) (L:List UInt8) (h0:0<=k) (hk:eA .i64 k) (hl:L.length<=100000000):Fn prog 136 [.str L,.int .i64 k] (fun rs=>rs=[kU (rdv k L).1,.bool (rdv k L).2]):=by
 have hN:=eW k h0 hk
 have hi:=eJ k hk
 have hS:=o6 L 35 (by omega)
 have hb:=nQ 35 L
 have hS2:=o6 (oE k L) 64 (by unfold oE; rw [aO]; omega)
 have hp0:=rT 35 L
 have hp1:=rT 64 (oE k L)
 by_cases hA:(dA 35 L).length < (Lib.itoa k).length + 1
 ·have hv:rdv k L=(([],[]),false):=if_pos (.inl hA)
  rw [hv]
  have hd:decide (((dA 35 L).length:Int) < (((Lib.itoa k).length + 1:Nat):Int))=true:=decide_eq_true (by omega)
  generalize dA 35 L=T at *
  refine c7 yP [] ?_
  dsimp only [yP,cY,dD]
  repeat' (first|(simp only [dC,hp0,hp1,aE,cM,aB,aK,hd,↓wA,↓wC,wB,cQ,cP,bW,bX,bY,reduceIte,reduceCtorEq,aA,bZ,mR])|(refine cO (hN) rfl rfl ?_)|(refine cR (hN) rfl rfl ?_)|(refine cO (hS) rfl rfl ?_)|(refine cR (hS) rfl rfl ?_)|(with_reducible refine cW ?_ ?_; focus omega)|(with_reducible refine cW ?_ ?_; focus (simp only [aC,aD]; omega))|((first|apply cJ|apply cK|apply cI)<;>intro h<;>try simp only [h]))
  all_goals rfl
 have hd:decide (((dA 35 L).length:Int) < (((Lib.itoa k).length + 1:Nat):Int))=false:=decide_eq_false (by omega)
 by_cases hB:(dA 35 L).take ((Lib.itoa k).length + 1)=Lib.itoa k ++ [32]
 ·have h1:¬ ((dA 35 L).length < (Lib.itoa k).length + 1\/(dA 35 L).take ((Lib.itoa k).length + 1)≠Lib.itoa k ++ [32]):=fun h=>h.elim hA fun h=>h hB
  have hd2:decide ((dA 35 L).take ((Lib.itoa k).length + 1)=Lib.itoa k ++ [32])=true:=decide_eq_true hB
  have hr:(dA 35 L).drop ((Lib.itoa k).length + 1)=oE k L:=rfl
  have hrl:(oE k L).length<=100000000:=by unfold oE; rw [aO]; omega
  have hb2:=nQ 64 (oE k L)
  by_cases h4:(64:UInt8) ∉ oE k L
  ·have hv:rdv k L=(([],[]),false):=by unfold rdv; rw [if_neg h1,if_pos h4]
   rw [hv]
   have hd3:decide (((dA 64 (oE k L)).length:Int)=((oE k L).length:Int))=true:=decide_eq_true (by rw [pK h4])
   generalize dA 35 L=T at *
   refine c7 yP [] ?_
   dsimp only [yP,cY,dD]
   repeat' (first|(simp only [dC,hp0,hp1,aE,cM,aB,aK,hd,hd2,hr,hd3,↓wA,↓wC,wB,cQ,cP,bW,bX,bY,reduceIte,reduceCtorEq,aA,bZ,mR])|(refine cO (hS2) rfl rfl ?_)|(refine cR (hS2) rfl rfl ?_)|(refine cO (hN) rfl rfl ?_)|(refine cR (hN) rfl rfl ?_)|(refine cO (hS) rfl rfl ?_)|(refine cR (hS) rfl rfl ?_)|(with_reducible refine cW ?_ ?_; focus omega)|(with_reducible refine cW ?_ ?_; focus (simp only [aC,aD]; omega))|((first|apply cJ|apply cK|apply cI)<;>intro h<;>try simp only [h]))
   all_goals rfl
  ·have hv:rdv k L=((dA 64 (oE k L),after 64 (oE k L)),fS (dA 64 (oE k L)) (after 64 (oE k L)) && decide (iW k (dA 64 (oE k L)) (after 64 (oE k L))=L)):=by unfold rdv; rw [if_neg h1,if_neg h4]
   rw [hv]
   have h64:(64:UInt8)∈oE k L:=Classical.byContradiction fun h=>h4 h
   have hal:=oZ h64
   have hd3:decide (((dA 64 (oE k L)).length:Int)=((oE k L).length:Int))=false:=decide_eq_false (by omega)
   have hdr:(oE k L).drop ((dA 64 (oE k L)).length + 1)=after 64 (oE k L):=(zA h64).symm
   have hG:=zI (dA 64 (oE k L)) (after 64 (oE k L)) (by rw [eP]; omega) (by rw [eP]; omega)
   by_cases hok:fS (dA 64 (oE k L)) (after 64 (oE k L))=true
   ·have hLn:=aDX k (dA 64 (oE k L)) (after 64 (oE k L)) h0 hk hok
    rw [hok] at hG ⊢
    have hle:decide (iW k (dA 64 (oE k L)) (after 64 (oE k L)) ++ [10]=L ++ [10])=decide (iW k (dA 64 (oE k L)) (after 64 (oE k L))=L):=decide_eq_decide.2 ⟨a6,fun h=>by rw [h]⟩
    rw [<- hle]
    have hcc:((dA 64 (oE k L)).length:Int) + 1=(((dA 64 (oE k L)).length + 1:Nat):Int):=rfl
    generalize dA 64 (oE k L)=C at *
    generalize after 64 (oE k L)=R at *
    generalize oE k L=T2 at *
    generalize dA 35 L=T at *
    refine c7 yP [[1,1,1,1,1,1,1,1,0]] ?_
    dsimp only [yP,cY,dD]
    repeat' (first|(simp only [dC,hp0,hp1,aE,cM,aB,aK,hd,hd2,hr,hd3,hdr,hcc,↓wA,↓wC,wB,cQ,cP,bW,bX,bY,reduceIte,reduceCtorEq,aA,bZ,mR])|(refine cO (hS2) rfl rfl ?_)|(refine cR (hS2) rfl rfl ?_)|(refine cO (hG) rfl rfl ?_)|(refine cR (hG) rfl rfl ?_)|(refine cO (hLn) rfl rfl ?_)|(refine cR (hLn) rfl rfl ?_)|(refine dN ?_)|(with_reducible refine cV ?_ ?_; focus (simp only [eA]; omega))|(refine cO (hN) rfl rfl ?_)|(refine cR (hN) rfl rfl ?_)|(refine cO (hS) rfl rfl ?_)|(refine cR (hS) rfl rfl ?_)|(with_reducible refine cW ?_ ?_; focus omega)|(with_reducible refine cW ?_ ?_; focus (simp only [aC,aD]; omega))|((first|apply cJ|apply cK|apply cI)<;>intro h<;>try simp only [h]))
    refine dF (iV 3 rfl) ?_
    simp only [D.unown,↓wA,↓wC,wB,cQ,cP,bW,bX,bY,reduceIte,reduceCtorEq,aA,bZ,mR]
    repeat' (first|(simp only [dC,hp0,hp1,aE,cM,aB,aK,hd,hd2,hr,hd3,hdr,hcc,↓wA,↓wC,wB,cQ,cP,bW,bX,bY,reduceIte,reduceCtorEq,aA,bZ,mR])|(refine cO (hS2) rfl rfl ?_)|(refine cR (hS2) rfl rfl ?_)|(refine cO (hG) rfl rfl ?_)|(refine cR (hG) rfl rfl ?_)|(refine cO (hLn) rfl rfl ?_)|(refine cR (hLn) rfl rfl ?_)|(refine dN ?_)|(with_reducible refine cV ?_ ?_; focus (simp only [eA]; omega))|(refine cO (hN) rfl rfl ?_)|(refine cR (hN) rfl rfl ?_)|(refine cO (hS) rfl rfl ?_)|(refine cR (hS) rfl rfl ?_)|(with_reducible refine cW ?_ ?_; focus omega)|(with_reducible refine cW ?_ ?_; focus (simp only [aC,aD]; omega))|((first|apply cJ|apply cK|apply cI)<;>intro h<;>try simp only [h]))
    all_goals rfl
   ·rw [Bool.not_eq_true] at hok
    rw [hok] at hG ⊢
    have hcc:((dA 64 (oE k L)).length:Int) + 1=(((dA 64 (oE k L)).length + 1:Nat):Int):=rfl
    generalize dA 64 (oE k L)=C at *
    generalize after 64 (oE k L)=R at *
    generalize oE k L=T2 at *
    generalize dA 35 L=T at *
    refine c7 yP [[1,1,1,1,1,1,1,1,0]] ?_
    dsimp only [yP,cY,dD]
    repeat' (first|(simp only [dC,hp0,hp1,aE,cM,aB,aK,hd,hd2,hr,hd3,hdr,hcc,↓wA,↓wC,wB,cQ,cP,bW,bX,bY,reduceIte,reduceCtorEq,aA,bZ,mR])|(refine cO (hS2) rfl rfl ?_)|(refine cR (hS2) rfl rfl ?_)|(refine cO (hG) rfl rfl ?_)|(refine cR (hG) rfl rfl ?_)|(refine dN ?_)|(with_reducible refine cV ?_ ?_; focus (simp only [eA]; omega))|(refine cO (hN) rfl rfl ?_)|(refine cR (hN) rfl rfl ?_)|(refine cO (hS) rfl rfl ?_)|(refine cR (hS) rfl rfl ?_)|(with_reducible refine cW ?_ ?_; focus omega)|(with_reducible refine cW ?_ ?_; focus (simp only [aC,aD]; omega))|((first|apply cJ|apply cK|apply cI)<;>intro h<;>try simp only [h]))
    refine dF (iV 3 rfl) ?_
    simp only [D.unown,↓wA,↓wC,wB,cQ,cP,bW,bX,bY,reduceIte,reduceCtorEq,aA,bZ,mR]
    repeat' (first|(simp only [dC,hp0,hp1,aE,cM,aB,aK,hd,hd2,hr,hd3,hdr,hcc,↓wA,↓wC,wB,cQ,cP,bW,bX,bY,reduceIte,reduceCtorEq,aA,bZ,mR])|(refine cO (hS2) rfl rfl ?_)|(refine cR (hS2) rfl rfl ?_)|(refine cO (hG) rfl rfl ?_)|(refine cR (hG) rfl rfl ?_)|(refine dN ?_)|(with_reducible refine cV ?_ ?_; focus (simp only [eA]; omega))|(refine cO (hN) rfl rfl ?_)|(refine cR (hN) rfl rfl ?_)|(refine cO (hS) rfl rfl ?_)|(refine cR (hS) rfl rfl ?_)|(with_reducible refine cW ?_ ?_; focus omega)|(with_reducible refine cW ?_ ?_; focus (simp only [aC,aD]; omega))|((first|apply cJ|apply cK|apply cI)<;>intro h<;>try simp only [h]))
    all_goals rfl
 ·have hv:rdv k L=(([],[]),false):=if_pos (.inr hB)
  rw [hv]
  have hd2:decide ((dA 35 L).take ((Lib.itoa k).length + 1)=Lib.itoa k ++ [32])=false:=decide_eq_false hB
  generalize dA 35 L=T at *
  refine c7 yP [] ?_
  dsimp only [yP,cY,dD]
  repeat' (first|(simp only [dC,hp0,hp1,aE,cM,aB,aK,hd,hd2,↓wA,↓wC,wB,cQ,cP,bW,bX,bY,reduceIte,reduceCtorEq,aA,bZ,mR])|(refine cO (hN) rfl rfl ?_)|(refine cR (hN) rfl rfl ?_)|(refine cO (hS) rfl rfl ?_)|(refine cR (hS) rfl rfl ?_)|(with_reducible refine cW ?_ ?_; focus omega)|(with_reducible refine cW ?_ ?_; focus (simp only [aC,aD]; omega))|((first|apply cJ|apply cK|apply cI)<;>intro h<;>try simp only [h]))
  all_goals rfl
def opS (s:List UInt8) (p:List (List UInt8×List UInt8)×Nat):St:=⟨[(0,.d (.str s)),(4,.own 0),(5,.d (.int .i64 p.2))],[.val (.sl true 2 (dl kU p.1))]⟩
theorem y4 (s:List UInt8) (hl:s.length<=100000000):Fn prog 92 [.str s] (fun rs=>rs=[.sl true 2 (dl kU (eF 60 0 s).1),.int .i64 ((eF 60 0 s).2:Nat)]):=by
 refine c7 aXa [] ?_
 dsimp only [aXa,cY,dD]
 repeat' (first|(simp only [cM,↓wA,↓wC,wB,cQ,cP,bW,bX,bY,reduceIte,reduceCtorEq,aA,bZ])|((first|apply cJ|apply cK|apply cI)<;>intro h<;>try simp only [h]))
 refine eM (opS s) (Reads s) (fun p=>60 - p.1.length) ([],0) ?_ (aZS s) ?_
 ·exact (cX _ rfl ⟨⟨rfl,rfl⟩,⟨rfl,rfl⟩,⟨rfl,rfl⟩,trivial⟩)
 intro p hp
 have hpl:=hp.pos
 have h60:=hp.len
 have hE:=nZ 60 0 s
 unfold opS
 by_cases hend:p.2 < s.length
 ·have hd0:decide ((p.2:Int) < (s.length:Int))=true:=decide_eq_true (by omega)
  by_cases hlt:p.1.length < 60
  ·have hd:decide ((p.1.length:Int) < 60)=true:=decide_eq_true (by omega)
   have hdr:(s.drop p.2).length<=100000000:=by rw [aO]; omega
   have hS:=o6 (s.drop p.2) 10 (by omega)
   have hp0:=rT 10 (s.drop p.2)
   have hbl:=nQ 10 (s.drop p.2)
   have hR:=aJN (p.1.length:Int) (dA 10 (s.drop p.2)) (by omega) (xR h60) (by omega)
   have hrd:=aU5 (p.1.length:Int) (dA 10 (s.drop p.2))
   have h2:=aFw 10 (s.drop p.2)
   by_cases iY:(10:UInt8)∈s.drop p.2
   ·have hd2:decide (((parts 10 (s.drop p.2)).length:Int) < 2)=false:=decide_eq_false (by
     have h3:¬ (parts 10 (s.drop p.2)).length < 2:=fun h=>h2.1 h iY
     omega)
    have hal:=oZ iY
    rw [aO] at hal
    cases hv:(rdv (p.1.length:Int) (dA 10 (s.drop p.2))).2 with
    | true =>
     rw [hv] at hR hrd
     simp only [if_true] at hrd
     have hnx:=hp.next hlt iY hrd
     generalize (rdv (p.1.length:Int) (dA 10 (s.drop p.2))).1=e at *
     generalize dA 10 (s.drop p.2)=L at *
     simp only [kU] at hR
     repeat' (first|(simp only [hd0,hd,hd2,hp0,cU,dC,aE,cM,aB,aK,↓wA,↓wC,wB,cQ,cP,bW,bX,bY,reduceIte,reduceCtorEq,aA,bZ])|(refine cO (hS) rfl rfl ?_)|(refine cR (hS) rfl rfl ?_)|(refine cO (hR) rfl rfl ?_)|(refine cR (hR) rfl rfl ?_)|(with_reducible refine cW ?_ ?_; focus omega)|(with_reducible refine cW ?_ ?_; focus (simp; done))|(with_reducible refine cV ?_ ?_; focus (simp only [eA]; omega))|((first|apply cJ|apply cK|apply cI)<;>intro h<;>try simp only [h]))
     all_goals
      have hcast:(p.2:Int) + L.length + 1=((p.2 + (L.length + 1):Nat):Int):=by omega
      refine ⟨(p.1 ++ [e],p.2 + (L.length + 1)),?_,hnx,by simp only [aC,aD]; omega⟩
      rw [hcast,aQp]
      exact (cX _ rfl ⟨⟨rfl,rfl⟩,⟨rfl,rfl⟩,⟨rfl,rfl⟩,trivial⟩)
    | false =>
     rw [hv] at hR hrd
     have hst:=hp.stopRd hrd
     generalize (rdv (p.1.length:Int) (dA 10 (s.drop p.2))).1=e at *
     generalize dA 10 (s.drop p.2)=L at *
     simp only [kU] at hR
     repeat' (first|(simp only [hd0,hd,hd2,hp0,cU,dC,aE,cM,aB,aK,↓wA,↓wC,wB,cQ,cP,bW,bX,bY,reduceIte,reduceCtorEq,aA,bZ])|(refine cO (hS) rfl rfl ?_)|(refine cR (hS) rfl rfl ?_)|(refine cO (hR) rfl rfl ?_)|(refine cR (hR) rfl rfl ?_)|(with_reducible refine cW ?_ ?_; focus omega)|(with_reducible refine cW ?_ ?_; focus (simp; done))|((first|apply cJ|apply cK|apply cI)<;>intro h<;>try simp only [h]))
     all_goals (rw [hst])
   ·have hd2:decide (((parts 10 (s.drop p.2)).length:Int) < 2)=true:=decide_eq_true (by
     have h3:=h2.2 iY
     omega)
    have hst:=hp.stop10 iY
    generalize rdv (p.1.length:Int) (dA 10 (s.drop p.2))=e at *
    generalize dA 10 (s.drop p.2)=L at *
    simp only [kU] at hR
    repeat' (first|(simp only [hd0,hd,hd2,hp0,cU,dC,aE,cM,aB,aK,↓wA,↓wC,wB,cQ,cP,bW,bX,bY,reduceIte,reduceCtorEq,aA,bZ])|(refine cO (hS) rfl rfl ?_)|(refine cR (hS) rfl rfl ?_)|(refine cO (hR) rfl rfl ?_)|(refine cR (hR) rfl rfl ?_)|(with_reducible refine cW ?_ ?_; focus omega)|(with_reducible refine cW ?_ ?_; focus (simp; done))|((first|apply cJ|apply cK|apply cI)<;>intro h<;>try simp only [h]))
    all_goals (rw [hst])
  ·have hd:decide ((p.1.length:Int) < 60)=false:=decide_eq_false (by omega)
   have hst:=hp.stopLen hlt
   repeat' (first|(simp only [hd0,hd,cU,cM,aB,↓wA,↓wC,wB,cQ,cP,bW,bX,bY,reduceIte,reduceCtorEq,aA,bZ])|((first|apply cJ|apply cK|apply cI)<;>intro h<;>try simp only [h]))
   all_goals (rw [hst])
 ·have hd0:decide ((p.2:Int) < (s.length:Int))=false:=decide_eq_false (by omega)
  have hst:=hp.stopEnd hend
  repeat' (first|(simp only [hd0,cU,cM,aB,↓wA,↓wC,wB,cQ,cP,bW,bX,bY,reduceIte,reduceCtorEq,aA,bZ])|((first|apply cJ|apply cK|apply cI)<;>intro h<;>try simp only [h]))
  all_goals (rw [hst])
def eQ (d p:List UInt8) (c:Int):D:=.st (.cons (.str d) (.cons (.str p) (.cons (.int .i64 c) .nil)))
def lv (d p:List UInt8) (c:Int):Bool:=decide (((eF 60 0 (d ++ p)).2:Int)=((d ++ p).length:Nat)) && decide (((eF 60 0 d).2:Int)=(d.length:Nat)) && decide (c=((eF 60 0 (d ++ p)).1.length:Nat))
def nF (d p:List UInt8):List (List UInt8×List UInt8):=(eF 60 0 (d ++ p)).1
theorem t8 {d p:List UInt8} {c:Int} (h:lv d p c=true):d.length + p.length<=30000:=by
 simp only [lv,aT,decide_eq_true_eq] at h
 have hB:=aCd (B:=430) (fun k c r h0 h1 hok=>mS (by simp only [eA]; omega) hok) 60 0 (d ++ p) (by omega) (by omega)
 have:=h.1.1
 rw [aC] at this
 omega
theorem aAB (d p:List UInt8) (c:Int) (hl:d.length + p.length<=100000000):Fn prog 45 [eQ d p c] (fun rs=>rs=[.sl true 2 (dl kU (nF d p)),.bool (lv d p c)]):=by
 have hA:=rY (d ++ p) (by rw [aC]; omega)
 have hD:=rY d (by omega)
 refine c7 aXL [] ?_
 dsimp only [aXL,cY,dD]
 simp only [eQ]
 repeat' (first|(simp only [cU,cM,↓wA,↓wC,wB,cQ,cP,bW,bX,bY,reduceIte,reduceCtorEq,aA,bZ,mF])|(refine cO (hA) rfl rfl ?_)|(refine cR (hA) rfl rfl ?_)|(refine cO (hD) rfl rfl ?_)|(refine cR (hD) rfl rfl ?_)|(with_reducible refine cW ?_ ?_; focus (simp only [aC]; omega))|(with_reducible refine cW ?_ ?_; focus omega)|((first|apply cJ|apply cK|apply cI)<;>intro h<;>try simp only [h]))
 all_goals (unfold nF lv; simp_all [aC])
theorem sR (d p:List UInt8) (c:Int) (hl:d.length + p.length<=100000000):Fn prog 44 [eQ d p c] (fun rs=>rs=[.bool (lv d p c)]):=by
 have hR:=aAB d p c hl
 refine c7 aW3 [] ?_
 dsimp only [aW3,cY,dD]
 simp only [eQ] at hR ⊢
 repeat' (first|(simp only [↓wA,↓wC,wB,cQ,cP,bW,bX,bY,reduceIte,reduceCtorEq,aA,bZ,mF])|(refine cO (hR) rfl rfl ?_)|(refine cR (hR) rfl rfl ?_)|((first|apply cJ|apply cK|apply cI)<;>intro h<;>try simp only [h]))
theorem tQ (d p:List UInt8) (c:Int) (hl:d.length + p.length<=100000000):Fn prog 53 [eQ d p c] (fun rs=>rs=[.bool (lv d p c)]):=by
 have hA:=y4 (d ++ p) (by rw [aC]; omega)
 have hD:=y4 d (by omega)
 refine c7 aX8 [] ?_
 dsimp only [aX8,cY,dD]
 simp only [eQ]
 repeat' (first|(simp only [cU,cM,↓wA,↓wC,wB,cQ,cP,bW,bX,bY,reduceIte,reduceCtorEq,aA,bZ,mF])|(refine cO (hA) rfl rfl ?_)|(refine cR (hA) rfl rfl ?_)|(refine cO (hD) rfl rfl ?_)|(refine cR (hD) rfl rfl ?_)|(with_reducible refine cW ?_ ?_; focus (simp only [aC]; omega))|(with_reducible refine cW ?_ ?_; focus omega)|(with_reducible refine cV ?_ ?_; focus (simp only [eA]; omega))|((first|apply cJ|apply cK|apply cI)<;>intro h<;>try simp only [h]))
 all_goals
  by_cases hs:d.length + p.length<=30000
  ·first
    |(exfalso; simp only [decide_eq_true_eq] at *; omega)
    |(unfold lv; rw [show ((d ++ p).length:Int)=(d.length:Int) + p.length by simp,show decide (c=((eF 60 0 (d ++ p)).1.length:Int))=decide (((eF 60 0 (d ++ p)).1.length:Int)=c) from decide_eq_decide.2 eq_comm]; simp_all)
  ·have hf:lv d p c=false:=by
    cases hlv:lv d p c with
    | false=>rfl
    | true=>exact absurd (t8 hlv) hs
   first
    |(exfalso; simp only [decide_eq_true_eq,decide_eq_false_iff_not] at *; omega)
    |(rw [hf])
def aLz (d p:List UInt8) (c:Int):List D:=if lv d p c=true then [eQ (d ++ p) [] c,.bool true] else [eQ [] [] 0,.bool false]
theorem aHE (d p:List UInt8) (c:Int) (hl:d.length + p.length<=100000000):Fn prog 140 [eQ d p c] (fun rs=>rs=aLz d p c):=by
 have hV:=tQ d p c hl
 unfold aLz
 cases hv:lv d p c with
 | true =>
  rw [hv] at hV
  refine c7 aLG [] ?_
  dsimp only [aLG,cY,dD]
  simp only [eQ] at hV ⊢
  repeat' (first|(simp only [cM,↓wA,↓wC,wB,cQ,cP,bW,bX,bY,reduceIte,reduceCtorEq,aA,bZ,mF])|(refine cO (hV) rfl rfl ?_)|(refine cR (hV) rfl rfl ?_)|(with_reducible refine cW ?_ ?_; focus omega)|((first|apply cJ|apply cK|apply cI)<;>intro h<;>try simp only [h]))
  all_goals rfl
 | false =>
  rw [hv] at hV
  refine c7 aLG [] ?_
  dsimp only [aLG,cY,dD]
  simp only [eQ] at hV ⊢
  repeat' (first|(simp only [cM,↓wA,↓wC,wB,cQ,cP,bW,bX,bY,reduceIte,reduceCtorEq,aA,bZ,mF])|(refine cO (hV) rfl rfl ?_)|(refine cR (hV) rfl rfl ?_)|((first|apply cJ|apply cK|apply cI)<;>intro h<;>try simp only [h]))
  all_goals rfl
def aER (d p:List UInt8) (k:Int) (c r:List UInt8):List D :=
 if lv d p k=true/\fS c r=true then
  if k=60 then [eQ d p k,.int .i64 2] else [eQ d (p ++ (iW k c r ++ [10])) (k + 1),.int .i64 0]
 else [eQ d p k,.int .i64 1]
theorem rG {d p:List UInt8} {k:Int} (h:lv d p k=true):0<=k/\k<=60:=by
 have hE:=nZ 60 0 (d ++ p)
 simp only [lv,aT,decide_eq_true_eq] at h
 omega
theorem mT (d p:List UInt8) (k:Int) (c r:List UInt8) (hl:d.length + p.length<=1048576) (hc:c.length<=maxLen) (hr:r.length<=maxLen):Fn prog 37 [eQ d p k,mM c r] (fun rs=>rs=aER d p k c r):=by
 have hV:=sR d p k (by omega)
 have hI:=o8 c r hc hr
 have hE:=aFV k c r hc hr
 unfold aER
 cases hv:lv d p k with
 | false =>
  rw [hv] at hV
  refine c7 aJc [] ?_
  dsimp only [aJc,cY,dD]
  simp only [eQ,mM] at hV ⊢
  repeat' (first|(simp only [↓wA,↓wC,wB,cQ,cP,bW,bX,bY,reduceIte,reduceCtorEq,aA,bZ,mF])|(refine cO (hV) rfl rfl ?_)|(refine cR (hV) rfl rfl ?_)|((first|apply cJ|apply cK|apply cI)<;>intro h<;>try simp only [h]))
  all_goals simp
 | true =>
  rw [hv] at hV
  have hk:=rG hv
  cases hok:fS c r with
  | false =>
   rw [hok] at hI
   refine c7 aJc [] ?_
   dsimp only [aJc,cY,dD]
   simp only [eQ,mM] at hV hI ⊢
   repeat' (first|(simp only [↓wA,↓wC,wB,cQ,cP,bW,bX,bY,reduceIte,reduceCtorEq,aA,bZ,mF])|(refine cO (hV) rfl rfl ?_)|(refine cR (hV) rfl rfl ?_)|(refine cO (hI) rfl rfl ?_)|(refine cR (hI) rfl rfl ?_)|((first|apply cJ|apply cK|apply cI)<;>intro h<;>try simp only [h]))
   all_goals simp
  | true =>
   rw [hok] at hI
   by_cases h60:k=60
   ·have hd:decide (k=60)=true:=decide_eq_true h60
    refine c7 aJc [] ?_
    dsimp only [aJc,cY,dD]
    simp only [eQ,mM] at hV hI ⊢
    repeat' (first|(simp only [hd,↓wA,↓wC,wB,cQ,cP,bW,bX,bY,reduceIte,reduceCtorEq,aA,bZ,mF])|(refine cO (hV) rfl rfl ?_)|(refine cR (hV) rfl rfl ?_)|(refine cO (hI) rfl rfl ?_)|(refine cR (hI) rfl rfl ?_)|((first|apply cJ|apply cK|apply cI)<;>intro h<;>try simp only [h]))
    all_goals simp [h60]
   ·have hd:decide (k=60)=false:=decide_eq_false h60
    have hEq:aJz k c r=[.str (iW k c r ++ [10]),.bool true]:=if_pos ⟨by simp [dE]; omega,hok⟩
    have hll:=mS (k:=k) (by simp only [eA]; omega) hok
    rw [hEq] at hE
    refine c7 aJc [] ?_
    dsimp only [aJc,cY,dD]
    simp only [eQ,mM] at hV hI hE ⊢
    repeat' (first|(simp only [hd,cM,↓wA,↓wC,wB,cQ,cP,bW,bX,bY,reduceIte,reduceCtorEq,aA,bZ,mF])|(refine cO (hV) rfl rfl ?_)|(refine cR (hV) rfl rfl ?_)|(refine cO (hI) rfl rfl ?_)|(refine cR (hI) rfl rfl ?_)|(refine cO (hE) rfl rfl ?_)|(refine cR (hE) rfl rfl ?_)|(with_reducible refine cW ?_ ?_; focus ((try simp only [aC,aD]); omega))|(with_reducible refine cV ?_ ?_; focus (simp only [eA]; omega))|((first|apply cJ|apply cK|apply cI)<;>intro h<;>try simp only [h]))
    all_goals simp [h60]
theorem mY (d p:List UInt8) (k:Int) (c r:List UInt8) (hl:d.length + p.length<=1048576) (hc:c.length<=maxLen) (hr:r.length<=maxLen):Fn prog 30 [eQ d p k,mM c r] (fun rs=>rs=aER d p k c r):=by
 have hV:=tQ d p k (by omega)
 have hI:=zI c r hc hr
 unfold aER
 cases hv:lv d p k with
 | false =>
  rw [hv] at hV
  refine c7 aIR [] ?_
  dsimp only [aIR,cY,dD]
  simp only [eQ,mM] at hV ⊢
  repeat' (first|(simp only [↓wA,↓wC,wB,cQ,cP,bW,bX,bY,reduceIte,reduceCtorEq,aA,bZ,mF])|(refine cO (hV) rfl rfl ?_)|(refine cR (hV) rfl rfl ?_)|((first|apply cJ|apply cK|apply cI)<;>intro h<;>try simp only [h]))
  all_goals simp
 | true =>
  rw [hv] at hV
  have hk:=rG hv
  cases hok:fS c r with
  | false =>
   rw [hok] at hI
   refine c7 aIR [] ?_
   dsimp only [aIR,cY,dD]
   simp only [eQ,mM] at hV hI ⊢
   repeat' (first|(simp only [↓wA,↓wC,wB,cQ,cP,bW,bX,bY,reduceIte,reduceCtorEq,aA,bZ,mF])|(refine cO (hV) rfl rfl ?_)|(refine cR (hV) rfl rfl ?_)|(refine cO (hI) rfl rfl ?_)|(refine cR (hI) rfl rfl ?_)|((first|apply cJ|apply cK|apply cI)<;>intro h<;>try simp only [h]))
   all_goals simp
  | true =>
   rw [hok] at hI
   by_cases h60:k=60
   ·have hd:decide (k=60)=true:=decide_eq_true h60
    refine c7 aIR [] ?_
    dsimp only [aIR,cY,dD]
    simp only [eQ,mM] at hV hI ⊢
    repeat' (first|(simp only [hd,↓wA,↓wC,wB,cQ,cP,bW,bX,bY,reduceIte,reduceCtorEq,aA,bZ,mF])|(refine cO (hV) rfl rfl ?_)|(refine cR (hV) rfl rfl ?_)|(refine cO (hI) rfl rfl ?_)|(refine cR (hI) rfl rfl ?_)|((first|apply cJ|apply cK|apply cI)<;>intro h<;>try simp only [h]))
    all_goals simp [h60]
   ·have hd:decide (k=60)=false:=decide_eq_false h60
    have hE:=aDX k c r hk.1 (by simp only [eA]; omega) hok
    have hll:=mS (k:=k) (by simp only [eA]; omega) hok
    refine c7 aIR [] ?_
    dsimp only [aIR,cY,dD]
    simp only [eQ,mM] at hV hI hE ⊢
    repeat' (first|(simp only [hd,cM,↓wA,↓wC,wB,cQ,cP,bW,bX,bY,reduceIte,reduceCtorEq,aA,bZ,mF])|(refine cO (hV) rfl rfl ?_)|(refine cR (hV) rfl rfl ?_)|(refine cO (hI) rfl rfl ?_)|(refine cR (hI) rfl rfl ?_)|(refine cO (hE) rfl rfl ?_)|(refine cR (hE) rfl rfl ?_)|(refine dN ?_)|(with_reducible refine cW ?_ ?_; focus ((try simp only [aC,aD]); omega))|(with_reducible refine cV ?_ ?_; focus (simp only [eA]; omega))|((first|apply cJ|apply cK|apply cI)<;>intro h<;>try simp only [h]))
    all_goals simp [h60]
structure Digs (k:Int) (p:Int×List UInt8):Prop where
 lo:0<=p.1
 hi:p.1<=k
 len:p.2.length<=21
 eq:Lib.decDigits k.toNat=if p.1=0 then p.2 else Lib.decDigits p.1.toNat ++ p.2
theorem Digs.start {k:Int} (h:0 < k):Digs k (k,[]):=⟨by show 0<=k; omega,by show k<=k; omega,by simp,by simp only; rw [if_neg (by omega)]; simp⟩
theorem Digs.next {k:Int} {p:Int×List UInt8} (hk:k<=100000000000000) (h:Digs k p) (hp:0 < p.1):Digs k (p.1 / 10,aM (48 + (p.1 % 10).toNat) :: p.2):=by
 obtain ⟨n,s⟩:=p
 have h0:(0:Int) < n:=hp
 obtain ⟨m,rfl⟩:=a7 (show (0:Int)<=n by omega)
 have he:=h.eq
 have hh:=h.hi
 simp only at he hh ⊢
 rw [if_neg (by omega),aB] at he
 have hmd:((m:Int) % 10).toNat=m % 10:=by omega
 have hdv:((m:Int) / 10).toNat=m / 10:=by omega
 have key:Lib.decDigits k.toNat=if (m:Int) / 10=0 then aM (48 + m % 10) :: s else Lib.decDigits (m / 10) ++ aM (48 + m % 10) :: s:=by
  rw [he]
  by_cases iY:m < 10
  ·rw [vU iY,if_pos (by omega),show m % 10=m by omega]; rfl
  ·rw [w8 iY,if_neg (by omega)]; simp
 have hl:=aAR k.toNat (by omega)
 refine ⟨by show (0:Int)<=(m:Int) / 10; omega,by show (m:Int) / 10<=k; omega,?_,by simp only [hmd,hdv]; exact key⟩
 rw [key] at hl
 simp only [hmd]
 split at hl
 ·exact hl
 ·rw [aC] at hl; omega
theorem Digs.done {k:Int} {p:Int×List UInt8} (h:Digs k p) (hp:¬ 0 < p.1):Lib.decDigits k.toNat=p.2:=by
 have:=h.lo
 rw [h.eq,if_pos (by omega)]
def lF (d p:List UInt8) (c:Int):List (List UInt8×List UInt8):=if lv d p c=true then nF d p else []
theorem aAT (d p:List UInt8) (c:Int) (hl:d.length + p.length<=100000000):Fn prog 13 [eQ d p c] (fun rs=>rs=[.sl true 2 (dl kU (lF d p c)),.bool (lv d p c)]):=by
 have hR:=aAB d p c hl
 unfold lF
 cases hv:lv d p c with
 | true =>
  rw [hv] at hR
  refine c7 aRf [] ?_
  dsimp only [aRf,cY,dD]
  simp only [eQ] at hR ⊢
  repeat' (first|(simp only [↓wA,↓wC,wB,cQ,cP,bW,bX,bY,reduceIte,reduceCtorEq,aA,bZ])|(refine cO (hR) rfl rfl ?_)|(refine cR (hR) rfl rfl ?_)|(refine lH 2 ?_)|((first|apply cJ|apply cK|apply cI)<;>intro h<;>try simp only [h]))
  all_goals simp
 | false =>
  rw [hv] at hR
  refine c7 aRf [] ?_
  dsimp only [aRf,cY,dD]
  simp only [eQ] at hR ⊢
  repeat' (first|(simp only [↓wA,↓wC,wB,cQ,cP,bW,bX,bY,reduceIte,reduceCtorEq,aA,bZ])|(refine cO (hR) rfl rfl ?_)|(refine cR (hR) rfl rfl ?_)|(refine lH 2 ?_)|((first|apply cJ|apply cK|apply cI)<;>intro h<;>try simp only [h]))
  all_goals first|rfl|(simp [dl]; rfl)
end Go.Pe.Tryz
namespace Go.Pe.Tryz
open Go.Proofs.Tryz
structure App where
 i:Int
 q:Int
 d:Int
 a:List Int
 h:List Int
 s:Int
def App.d' (x:App):D:=.st (.cons (.int .i64 x.i) (.cons (.int .i64 x.q) (.cons (.int .i64 x.d) (.cons (.sl false 1 (dl iD x.a)) (.cons (.sl false 1 (dl iD x.h)) (.cons (.int .i64 x.s) .nil))))))
def App.ok0 (x:App):Prop:=x.a.length<=1048576/\x.h.length<=1048576
theorem dB (v:List Int):(dl iD v).noOwn=true:=pO aOl v
theorem dW (v:List Int):(dl iD v).unown=dl iD v:=s7 aOj v
theorem App.noOwn (x:App):x.d'.noOwn=true:=by simp [App.d',D.noOwn,dB]
theorem App.unown (x:App):x.d'.unown=x.d':=by simp [App.d',D.unown,dW]
theorem aMC {α:Type} {xs:List α} {i:Nat} {a:α} (h:xs[i]?=some a):xs.drop i=a :: xs.drop (i + 1):=by
 have hi:=c6 h
 rw [aW hi]
 rw [List.getElem?_eq_getElem hi] at h
 injection h with h
 rw [h]
theorem aD7 (n:Int):Fn prog 86 [.int .i64 n] (fun rs=>rs=[.bool (dE n 0 20000)]):=by
 refine c7 aWY [] ?_
 dsimp only [aWY,cY,dD]
 repeat' (first|(simp only [↓wA,↓wC,wB,cQ,cP,bW,bX,bY,reduceIte,reduceCtorEq,aA,bZ])|(refine cO (fL _ _ _) rfl rfl ?_)|(refine cR (fL _ _ _) rfl rfl ?_)|((first|apply cJ|apply cK|apply cI)<;>intro h<;>try simp only [h]))
theorem aAj (n:Int):Fn prog 93 [.int .i64 n] (fun rs=>rs=[.bool (dE n 0 20000)]):=by
 refine c7 aYf [] ?_
 dsimp only [aYf,cY,dD]
 repeat' (first|(simp only [↓wA,↓wC,wB,cQ,cP,bW,bX,bY,reduceIte,reduceCtorEq,aA,bZ])|(refine cO (jL _ _ _) rfl rfl ?_)|(refine cR (jL _ _ _) rfl rfl ?_)|((first|apply cJ|apply cK|apply cI)<;>intro h<;>try simp only [h]))
theorem aIN (v:List Int) (n:Int) (hlen:v.length<=1048576):Fn prog 162 [.sl false 1 (dl iD v),.int .i64 n] (fun rs=>rs=[.bool (v.contains n)]):=by
 refine c7 aT3 [] ?_
 dsimp only [aT3,cY,dD]
 simp only [↓wA,↓wC,wB,cQ,cP,bW,bX,bY,reduceIte,reduceCtorEq,aA,bZ]
 refine eM (fun i:Nat=>⟨[(0,.d (.sl false 1 (dl iD v))),(1,.d (.int .i64 n)),(5,.d (.int .i64 i))],[]⟩)
  (fun i=>i<=v.length/\n ∉ v.take i) (fun i=>v.length - i) 0 (cX [] rfl ⟨⟨rfl,rfl⟩,⟨rfl,rfl⟩,⟨rfl,rfl⟩,trivial⟩) ⟨aV _,by simp⟩ ?_
 rintro i ⟨hi,hp⟩
 by_cases hlt:i < v.length
 ·obtain ⟨r,hr⟩:=dS hlt
  have hd:decide ((i:Int) < (v.length:Int))=true:=decide_eq_true (by omega)
  have h0:(0:Int)<=(i:Int):=by omega
  by_cases hc:r=n
  ·have hm:v.contains n=true:=by rw [aF]; rw [<- hc]; exact aN hr
   have hdc:decide (r=n)=true:=decide_eq_true hc
   simp only [cU,dC,hd,h0,hr,aE,aB,cM,iD,hdc,hm,↓wA,↓wC,wB,cQ,cP,bW,bX,bY,reduceIte,reduceCtorEq,aA,bZ]
  ·have hdc:decide (r=n)=false:=decide_eq_false hc
   simp only [cU,dC,hd,h0,hr,aE,aB,cM,iD,hdc,↓wA,↓wC,wB,cQ,cP,bW,bX,bY,reduceIte,reduceCtorEq,aA,bZ]
   refine cV (by simp only [eA]; omega) ?_
   refine ⟨i + 1,cX [] rfl ⟨⟨rfl,rfl⟩,⟨rfl,rfl⟩,⟨rfl,rfl⟩,trivial⟩,⟨by omega,?_⟩,by omega⟩
   have hi:=c6 hr
   rw [aG hi]
   have:v[i]=r:=by rw [List.getElem?_eq_getElem hi] at hr; injection hr
   rw [this]
   simp only [aP,aR,not_or]
   exact ⟨hp,fun h=>hc h.symm⟩
 ·have hd:decide ((i:Int) < (v.length:Int))=false:=decide_eq_false (by omega)
  simp only [cU,hd,↓wA,↓wC,wB,cQ,cP,bW,bX,bY,reduceIte,reduceCtorEq,aA,bZ]
  rw [aI (by omega)] at hp
  have:v.contains n=false:=by
   cases h:v.contains n with
   | false=>rfl
   | true=>exact absurd (aF.1 h) hp
  rw [this]
def qA (v:List Int):Bool:=(bV (v.length - 1)).all fun j=>decide (v.getD j 0 < v.getD (j + 1) 0)
theorem tJ (v:List Int):qA v=true↔∀ j,j + 1 < v.length->v.getD j 0 < v.getD (j + 1) 0:=by
 simp only [qA,aZ,List.mem_range,decide_eq_true_eq]
 exact ⟨fun h j hj=>h j (by omega),fun h j hj=>h j (by omega)⟩
theorem aGx (v:List Int) (hlen:v.length<=1048576):Fn prog 130 [.sl false 1 (dl iD v)] (fun rs=>rs=[.bool (qA v)]):=by
 refine c7 aUD [] ?_
 dsimp only [aUD,cY,dD]
 simp only [↓wA,↓wC,wB,cQ,cP,bW,bX,bY,reduceIte,reduceCtorEq,aA,bZ]
 refine eM (fun i:Nat=>⟨[(0,.d (.sl false 1 (dl iD v))),(3,.d (.int .i64 (i + 1:Nat)))],[]⟩)
  (fun i=>i<=v.length/\∀ j,j + 1 < i + 1->j + 1 < v.length->v.getD j 0 < v.getD (j + 1) 0) (fun i=>v.length - i) 0 (cX [] rfl ⟨⟨rfl,rfl⟩,⟨rfl,rfl⟩,trivial⟩) ⟨aV _,fun j h=>by omega⟩ ?_
 rintro i ⟨hi,hp⟩
 by_cases hlt:i + 1 < v.length
 ·obtain ⟨a,ha⟩:=dS (show i < v.length by omega)
  obtain ⟨b,hb⟩:=dS hlt
  have hd:decide (((i + 1:Nat):Int) < (v.length:Int))=true:=decide_eq_true (by omega)
  have h0:(0:Int)<=((i + 1:Nat):Int):=by omega
  have h1:(0:Int)<=((i + 1:Nat):Int) - 1:=by omega
  have ha':v[(((i + 1:Nat):Int) - 1).toNat]?=some a:=by rw [show (((i + 1:Nat):Int) - 1).toNat=i by omega]; exact ha
  have ga:v.getD i 0=a:=by simp [bE,ha]
  have gb:v.getD (i + 1) 0=b:=by simp [bE,hb]
  repeat' (first|(simp only [cU,dC,hd,h0,h1,ha',hb,aB,aE,cM,iD,↓wA,↓wC,wB,cQ,cP,bW,bX,bY,reduceIte,reduceCtorEq,aA,bZ])|(refine cV (by simp only [eA]; omega) ?_)|((first|apply cJ|apply cK|apply cI)<;>intro h<;>try simp only [h]))
  ·have hr:qA v=false:=by
    cases hr:qA v with
    | false=>rfl
    | true =>
     have:=(tJ v).1 hr i hlt
     rw [ga,gb] at this
     simp at h; omega
   rw [hr]
  ·refine ⟨i + 1,cX [] rfl ⟨⟨rfl,rfl⟩,⟨rfl,rfl⟩,trivial⟩,⟨by omega,fun j hj hj2=>?_⟩,by omega⟩
   by_cases e:j=i
   ·subst e
    rw [ga,gb]
    simp at h; omega
   ·exact hp j (by omega) hj2
 ·have hd:decide (((i + 1:Nat):Int) < (v.length:Int))=false:=decide_eq_false (by omega)
  have hr:qA v=true:=(tJ v).2 fun j hj=>hp j (by omega) hj
  simp only [cU,hd,↓wA,↓wC,wB,cQ,cP,bW,bX,bY,reduceIte,reduceCtorEq,aA,bZ]
  rw [hr]
theorem aEQ (p:Int->Bool) (g:Nat) (c:D) (xs:List Int) (hc:c.caps=true) (he:g8 prog.P g=true) (hlen:xs.length<=1048576) (hp:∀ x∈xs,Fn prog g (iD x :: c.list) (fun rs=>rs=[.bool (p x)])) :
  Fn prog 166 [.sl false 1 (dl iD xs),.clo g c] (fun rs=>rs=[.int .i64 (mD p xs)]):=by
 refine c7 aUF [] ?_
 dsimp only [aUF,cY,dD]
 simp only [cU,↓wA,↓wC,wB,cQ,cP,bW,bX,bY,reduceIte,reduceCtorEq,aA,bZ]
 refine dU xs.length (fun i:Nat=>⟨[(0,.d (.sl false 1 (dl iD xs))),(1,.d (.clo g c)),(7,.d (.int .i64 xs.length)),(8,.d (.int .i64 i))],[]⟩) (fun i=>∀ j r,j < i->xs[j]?=some r->p r=false) (cX _ rfl ⟨⟨rfl,rfl⟩,⟨rfl,rfl⟩,⟨rfl,rfl⟩,⟨rfl,rfl⟩,trivial⟩) (fun j r hj=>by omega) ?_ ?_
 ·intro i hlt hinv hd h0
  obtain ⟨r,hr⟩:=dS hlt
  have hcl:=hp r (aN hr)
  simp only [hd,h0,dC,aB,hr,aE,cM,↓eV,↓wA,↓wC,wB,cQ,cP,bW,bX,bY,reduceIte,reduceCtorEq,aA,bZ]
  refine xS (ds:=[iD r]) hcl he hc (by simp [dH,dQ,l9,iD]) rfl ?_
  cases hpr:p r with
  | true =>
   simp only [↓wA,↓wC,wB,cQ,cP,bW,bX,bY,reduceIte,reduceCtorEq,aA,bZ]
   rw [tT hr hpr hinv]
  | false =>
   simp only [↓wA,↓wC,wB,cQ,cP,bW,bX,bY,reduceIte,reduceCtorEq,aA,bZ]
   refine cV (by simp only [eA]; omega) ?_
   refine fZ (cX _ rfl ⟨⟨rfl,rfl⟩,⟨rfl,rfl⟩,⟨rfl,rfl⟩,⟨rfl,rfl⟩,trivial⟩) hlt fun j s hj hs=>?_
   by_cases e:j=i
   ·subst e; rw [hr] at hs; injection hs with hs; rw [<- hs]; exact hpr
   ·exact hinv j s (by omega) hs
 ·intro hinv hd
  simp only [hd,↓wA,↓wC,wB,cQ,cP,bW,bX,bY,reduceIte,reduceCtorEq,aA,bZ]
  rw [rM fun j r hj=>hinv j r (c6 hj) hj]
theorem aBh (p:Int->Bool) (g:Nat) (c:D) (xs:List Int) (hc:c.caps=true) (he:g8 prog.P g=true) (hlen:xs.length<=1048576) (hp:∀ x∈xs,Fn prog g (iD x :: c.list) (fun rs=>rs=[.bool (p x)])) :
  Fn prog 131 [.sl false 1 (dl iD xs),.clo g c] (fun rs=>rs=[.bool (xs.any p)]):=by
 refine c7 aUz [] ?_
 dsimp only [aUz,cY,dD]
 simp only [↓wA,↓wC,wB,cQ,cP,bW,bX,bY,reduceIte,reduceCtorEq,aA,bZ]
 refine cO (aEQ p g c xs hc he hlen hp) rfl rfl ?_
 simp only [t7,↓wA,↓wC,wB,cQ,cP,bW,bX,bY,reduceIte,reduceCtorEq,aA,bZ]
theorem aF7 (xs:List Int) (v:Int) (hlen:xs.length<=1048576) :
  Fn prog 189 [.sl false 1 (dl iD xs),iD v] (fun rs=>rs=[.int .i64 (mD (fun x=>decide (v=x)) xs)]):=by
 refine c7 aUm [] ?_
 dsimp only [aUm,cY,dD]
 simp only [cU,iD,↓wA,↓wC,wB,cQ,cP,bW,bX,bY,reduceIte,reduceCtorEq,aA,bZ]
 refine dU xs.length (fun i:Nat=>⟨[(0,.d (.sl false 1 (dl iD xs))),(1,.d (iD v)),(7,.d (.int .i64 xs.length)),(8,.d (.int .i64 i))],[]⟩) (fun i=>∀ j r,j < i->xs[j]?=some r->decide (v=r)=false) (cX _ rfl ⟨⟨rfl,rfl⟩,⟨rfl,rfl⟩,⟨rfl,rfl⟩,⟨rfl,rfl⟩,trivial⟩) (fun j r hj=>by omega) ?_ ?_
 ·intro i hlt hinv hd h0
  obtain ⟨r,hr⟩:=dS hlt
  simp only [hd,h0,dC,aB,hr,aE,cM,↓eV,iD,↓wA,↓wC,wB,cQ,cP,bW,bX,bY,reduceIte,reduceCtorEq,aA,bZ]
  by_cases hpr:v=r
  ·simp only [decide_eq_true hpr,↓wA,↓wC,wB,cQ,cP,bW,bX,bY,reduceIte,reduceCtorEq,aA,bZ]
   rw [tT hr (decide_eq_true hpr) hinv]
  ·simp only [decide_eq_false hpr,↓wA,↓wC,wB,cQ,cP,bW,bX,bY,reduceIte,reduceCtorEq,aA,bZ]
   refine cV (by simp only [eA]; omega) ?_
   refine fZ (cX _ rfl ⟨⟨rfl,rfl⟩,⟨rfl,rfl⟩,⟨rfl,rfl⟩,⟨rfl,rfl⟩,trivial⟩) hlt fun j s hj hs=>?_
   by_cases e:j=i
   ·subst e; rw [hr] at hs; injection hs with hs; rw [<- hs]; exact decide_eq_false hpr
   ·exact hinv j s (by omega) hs
 ·intro hinv hd
  simp only [hd,↓wA,↓wC,wB,cQ,cP,bW,bX,bY,reduceIte,reduceCtorEq,aA,bZ]
  rw [rM fun j r hj=>hinv j r (c6 hj) hj]
theorem aAI (xs:List Int) (v:Int) (hlen:xs.length<=1048576):Fn prog 151 [.sl false 1 (dl iD xs),.int .i64 v] (fun rs=>rs=[.bool (xs.contains v)]):=by
 refine c7 aTt [] ?_
 dsimp only [aTt,cY,dD]
 simp only [↓wA,↓wC,wB,cQ,cP,bW,bX,bY,reduceIte,reduceCtorEq,aA,bZ]
 refine cO (aF7 xs v hlen) rfl rfl ?_
 simp only [t7,vW,↓wA,↓wC,wB,cQ,cP,bW,bX,bY,reduceIte,reduceCtorEq,aA,bZ]
theorem aKU {α:Type} (p:α->Bool) (xs:List α):xs.any (fun x=>!p x)=!xs.all p:=by
 induction xs with
 | nil=>rfl
 | cons a v ih=>simp [List.any_cons,bT,ih]
theorem aH1 (v:List Int) (a b:Int) (hlen:v.length<=1048576):Fn prog 160 [.sl false 1 (dl iD v),.int .i64 a,.int .i64 b] (fun rs=>rs=[.bool (v.all (fun n=>dE n a b) && qA v)]):=by
 refine c7 aUM [] ?_
 dsimp only [aUM,cY,dD]
 simp only [↓wA,↓wC,wB,cQ,cP,bW,bX,bY,reduceIte,reduceCtorEq,aA,bZ]
 refine dU v.length (fun i:Nat=>⟨[(0,.d (.sl false 1 (dl iD v))),(1,.d (.int .i64 a)),(2,.d (.int .i64 b)),(7,.d (.int .i64 i))],[]⟩) (fun i=>(∀ j r,j < i->v[j]?=some r->dE r a b=true)/\∀ j,j + 1 < i->v.getD j 0 < v.getD (j + 1) 0) (cX _ rfl ⟨⟨rfl,rfl⟩,⟨rfl,rfl⟩,⟨rfl,rfl⟩,⟨rfl,rfl⟩,trivial⟩) ⟨fun j r hj=>by omega,fun j hj=>by omega⟩ ?_ ?_
 ·rintro i hlt ⟨hin,hri⟩ hd h0
  obtain ⟨r,hr⟩:=dS hlt
  have gr:v.getD i 0=r:=by simp [bE,hr]
  have hc:=jL r a b
  cases hw:dE r a b with
  | false =>
   have hres:(v.all (fun n=>dE n a b) && qA v)=false:=by
    have:v.all (fun n=>dE n a b)=false:=bF.2 ⟨r,aN hr,by simp [hw]⟩
    rw [this]; rfl
   rw [hw] at hc
   repeat' (first|(simp only [cU,dC,hd,h0,aB,hr,aE,↓eV,cM,↓wA,↓wC,wB,cQ,cP,bW,bX,bY,reduceIte,reduceCtorEq,aA,bZ])|(refine cO (hc) rfl rfl ?_)|(refine cR (hc) rfl rfl ?_)|((first|apply cJ|apply cK|apply cI)<;>intro h<;>try simp only [h]))
   all_goals rw [hres]
  | true =>
   rw [hw] at hc
   have hin':∀ j s,j < i + 1->v[j]?=some s->dE s a b=true:=fun j s hj hs=>by
    by_cases e:j=i
    ·subst e; rw [hr] at hs; injection hs with hs; rw [<- hs]; exact hw
    ·exact hin j s (by omega) hs
   cases i with
   | zero =>
    have hg:decide ((0:Int) < ((0:Nat):Int))=false:=by decide
    repeat' (first|(simp only [cU,dC,hd,h0,aB,hr,aE,↓eV,cM,hg,↓wA,↓wC,wB,cQ,cP,bW,bX,bY,reduceIte,reduceCtorEq,aA,bZ])|(refine cO (hc) rfl rfl ?_)|(refine cR (hc) rfl rfl ?_)|(refine cV (by simp only [eA]; omega) ?_)|((first|apply cJ|apply cK|apply cI)<;>intro h<;>try simp only [h]))
    all_goals exact fZ (cX _ rfl ⟨⟨rfl,rfl⟩,⟨rfl,rfl⟩,⟨rfl,rfl⟩,⟨rfl,rfl⟩,trivial⟩) hlt ⟨hin',fun j hj=>by omega⟩
   | succ k =>
    obtain ⟨y,hy⟩:=dS (show k < v.length by omega)
    have gy:v.getD k 0=y:=by simp [bE,hy]
    have hg:decide ((0:Int) < ((k + 1:Nat):Int))=true:=decide_eq_true (by omega)
    have h1:(0:Int)<=((k + 1:Nat):Int) - 1:=by omega
    have hy':v[(((k + 1:Nat):Int) - 1).toNat]?=some y:=by rw [show (((k + 1:Nat):Int) - 1).toNat=k by omega]; exact hy
    by_cases hl:y < r
    ·have hq:decide (r<=y)=false:=decide_eq_false (by omega)
     repeat' (first|(simp only [cU,dC,hd,h0,h1,aB,hr,hy',aE,↓eV,cM,hg,hq,↓wA,↓wC,wB,cQ,cP,bW,bX,bY,reduceIte,reduceCtorEq,aA,bZ])|(refine cO (hc) rfl rfl ?_)|(refine cR (hc) rfl rfl ?_)|(refine cV (by simp only [eA]; omega) ?_)|((first|apply cJ|apply cK|apply cI)<;>intro h<;>try simp only [h]))
     all_goals refine fZ (cX _ rfl ⟨⟨rfl,rfl⟩,⟨rfl,rfl⟩,⟨rfl,rfl⟩,⟨rfl,rfl⟩,trivial⟩) hlt ⟨hin',fun j hj=>?_⟩
     by_cases e:j=k
     ·subst e; rw [gy,gr]; exact hl
     ·exact hri j (by omega)
    ·have hq:decide (r<=y)=true:=decide_eq_true (by omega)
     have hres:(v.all (fun n=>dE n a b) && qA v)=false:=by
      have:qA v=false:=by
       cases h:qA v with
       | false=>rfl
       | true =>
        have:=(tJ v).1 h k hlt
        rw [gy,gr] at this; omega
      rw [this,Bool.and_false]
     repeat' (first|(simp only [cU,dC,hd,h0,h1,aB,hr,hy',aE,↓eV,cM,hg,hq,↓wA,↓wC,wB,cQ,cP,bW,bX,bY,reduceIte,reduceCtorEq,aA,bZ])|(refine cO (hc) rfl rfl ?_)|(refine cR (hc) rfl rfl ?_)|(refine cV (by simp only [eA]; omega) ?_)|((first|apply cJ|apply cK|apply cI)<;>intro h<;>try simp only [h]))
     all_goals rw [hres]
 ·rintro ⟨hin,hri⟩ hd
  have hres:(v.all (fun n=>dE n a b) && qA v)=true:=by
   rw [aT]
   refine ⟨aZ.2 fun n hn=>?_,(tJ v).2 fun j hj=>hri j hj⟩
   obtain ⟨j,hj⟩:=List.getElem?_of_mem hn
   exact hin j n (c6 hj) hj
  simp only [cU,hd,↓wA,↓wC,wB,cQ,cP,bW,bX,bY,reduceIte,reduceCtorEq,aA,bZ]
  rw [hres]
structure Cs where
 i:Int
 a:Int
 d:Int
 h:List Int
def Cs.p (x:Cs) (dh:D):D:=.st (.cons (.int .i64 x.i) (.cons (.int .i64 x.a) (.cons (.int .i64 x.d) (.cons dh .nil))))
def Cs.s (x:Cs):D:=x.p (.sl false 1 (dl iD x.h))
def Cs.o (x:Cs):D:=x.p (.sl true 1 (dl iD x.h))
def Cs.ok0 (x:Cs):Prop:=x.h.length<=1048576
structure Off where
 day:Int
 cs:List Cs
 kept:Int
 moved:Int
 led:List (List UInt8)
def d5 (o:Off) (dc dd:D):D:=.st (.cons (.int .i64 o.day) (.cons dc (.cons (.int .i64 o.kept) (.cons (.int .i64 o.moved) (.cons dd .nil)))))
def Off.s (o:Off):D:=d5 o (.sl false 4 (dl Cs.s o.cs)) (.sl false 1 (dl D.str o.led))
def Off.o (o:Off):D:=d5 o (.sl true 4 (dl Cs.o o.cs)) (.sl true 1 (dl D.str o.led))
def aWb (L:List (List UInt8)):Prop:=L.length<=1048576/\∀ s∈L,s.length<=1048576
def xY (xs:List Cs):Prop:=xs.length<=1048576/\∀ x∈xs,x.ok0
def Off.ok0 (o:Off):Prop:=xY o.cs/\aWb o.led
theorem cZ (L:List (List UInt8)):(dl D.str L).noOwn=true:=pO (fun _=>rfl) L
theorem fF (L:List (List UInt8)):(dl D.str L).unown=dl D.str L:=s7 (fun _=>rfl) L
theorem aIA (L:List (List UInt8)):(dl D.str L).allOwn=true:=o9 (fun _=>rfl) L
theorem aZG (x:Cs):x.s.noOwn=true:=by simp [Cs.s,Cs.p,D.noOwn,dB]
theorem aZF (x:Cs):x.s.unown=x.s:=by simp [Cs.s,Cs.p,D.unown,dW]
theorem aZV (x:Cs):x.o.unown=x.s:=by simp [Cs.o,Cs.s,Cs.p,D.unown,dW]
theorem aZ0 (x:Cs):x.o.allOwn=true:=by simp [Cs.o,Cs.p,D.allOwn,o9 xJ]
theorem Cs.o_noOwn (x:Cs):x.o.noOwn=false:=by simp [Cs.o,Cs.p,D.noOwn]
theorem aZE (x:Cs):x.s.isV=true:=rfl
theorem aZD (x:Cs):x.s.size=4:=rfl
theorem Cs.o_isV (x:Cs):x.o.isV=true:=rfl
theorem Cs.o_size (x:Cs):x.o.size=4:=rfl
theorem c8 (xs:List Cs):(dl Cs.s xs).noOwn=true:=pO aZG xs
theorem gG (xs:List Cs):(dl Cs.s xs).unown=dl Cs.s xs:=s7 aZF xs
theorem tP:∀ xs:List Cs,(dl Cs.o xs).unown=dl Cs.s xs
 | []=>rfl
 | x :: xs=>by
  have:=tP xs
  simp only [dl,List.map_cons,kN,D.unown,aZV] at this ⊢
  rw [this]
theorem aRt (xs:List Cs):(dl Cs.o xs).allOwn=true:=o9 aZ0 xs
theorem aZw (o:Off):o.s.noOwn=true:=by simp [Off.s,d5,D.noOwn,c8,cZ]
theorem aZv (o:Off):o.s.unown=o.s:=by simp [Off.s,d5,D.unown,gG,fF]
theorem aZI (o:Off):o.o.unown=o.s:=by simp [Off.s,Off.o,d5,D.unown,tP,fF]
theorem aZR (o:Off):o.o.allOwn=true:=by simp [Off.o,d5,D.allOwn,aRt,aIA]
theorem iN {o:List Ob} {K:SV->Prop} {x:Cs}:fB o (some 4) x.s K=K (.d x.s):=by simp [Cs.s,Cs.p,fB,D.size,D.noOwn,dB]
theorem dK {o:List Ob} {K:SV->Prop} {x:Off}:fB o (some 5) x.s K=K (.d x.s):=by simp [Off.s,d5,fB,D.size,D.noOwn,c8,cZ]
theorem fY {α:Type} {xs:List α} {i:Nat} {r:α} (hr:xs[i]?=some r):xs.take (i + 1)=xs.take i ++ [r]:=by
 have hi:=c6 hr
 rw [aG hi]
 rw [List.getElem?_eq_getElem hi] at hr
 injection hr with hr
 rw [hr]
theorem aSg {P:PG} {f:FuncId} {ds:List D} {R S:List D->Prop} (h:Fn P f ds R) (hs:∀ rs,R rs->S rs):Fn P f ds S:=by
 intro M vs w h1 h2 h3
 refine (h M vs w h1 h2 h3).mono ?_
 rintro e w' ⟨rs,us,fp,e1,e2,e3⟩
 exact ⟨rs,us,fp,e1,hs rs e2,e3⟩
def aCv (l:List UInt8):List Bool:=(bV 256).map fun j=>l.contains (aM j)
def yF (l:List UInt8):D:=.st (dl D.bool (aCv l))
theorem aF2 {w:World} {M:Nat->Prop}:∀ L:List Bool,(dl D.bool L).rep w M (L.map Value.bool) []
 | []=>⟨rfl,rfl⟩
 | b :: L=>⟨[.bool b],_,[],[],rfl,rfl,⟨rfl,rfl⟩,aF2 L⟩
theorem aKg (l:List UInt8):(Lib.setCells l).toList=(aCv l).map Value.bool:=by
 rw [Lib.setCells_eq]
 simp [aCv,List.map_map,Function.comp_def]
theorem aS6 (l:List UInt8) (x:UInt8):(aCv l)[x.toNat]?=some (l.contains x):=by
 have h:=x.toNat_lt
 simp only [aCv,List.getElem?_map,List.getElem?_range h,aE,bH]
theorem aJM (s:List UInt8) (h128:∀ b∈s,b.toNat < 128) (hl:s.length < 4000000000):Fn prog 201 [.str s] (fun rs=>rs=[yF s,.bool true]):=by
 intro M vs w hM hG hv
 obtain ⟨cs,us,f1,f2,rfl,e,⟨rfl,_⟩,rfl,rfl⟩:=hv
 refine (Go.Proofs.Tryz.strings_makeASCIISet (fun w=>by kernel_rfl) ⟨s.toArray⟩ w (by show s.toArray.size < _; simp; omega) ?_).mono ?_
 ·intro j b hb
  exact h128 b (aN (by simpa using hb))
 ·rintro e w' ⟨rfl,rfl⟩
  refine ⟨[yF s,.bool true],[.agg (Lib.setCells s),.bool true],[],rfl,rfl,⟨(Lib.setCells s).toList,[.bool true],[],[],rfl,rfl,?_,⟨[.bool true],[],[],[],rfl,rfl,⟨rfl,rfl⟩,rfl,rfl⟩⟩,List.nodup_nil,(by simp),kL w _⟩
  rw [aKg]
  exact aF2 _
theorem aFg:∀ (L:List Bool) (n:Nat),n<=L.length->(dl D.bool L).pre n=n
 | _,0,_=>by cases ‹List Bool›<;>rfl
 | [],n + 1,h=>by simp at h
 | b :: L,n + 1,h=>by
  have:=aFg L n (by simpa using h)
  show 1 + (dl D.bool L).pre n=n + 1
  omega
theorem aA7 (l:List UInt8) (x:UInt8):Fn prog 226 [.ptr (yF l),.int .u8 (x.toNat:Int)] (fun rs=>rs=[.bool (l.contains x)]):=by
 have h256:=x.toNat_lt
 have hx:=aS6 l x
 have hp:=aFg (aCv l) x.toNat (by simp [aCv]; omega)
 have hp':(dl D.bool (aCv l)).pre x.toNat=x.toNat * 1:=by omega
 refine c7 aUh [] ?_
 dsimp only [aUh,cY,dD]
 simp only [yF]
 repeat' (first|(simp only [cM,aB,hp',dC,hx,aE,↓wA,↓wC,wB,cQ,cP,bW,bX,bY,reduceIte,reduceCtorEq,aA,bZ])|(with_reducible refine cW ?_ ?_; focus omega)|((first|apply cJ|apply cK|apply cI)<;>intro h<;>try simp only [h]))
def rQ (l s:List UInt8):List UInt8:=s.dropWhile (fun b=>l.contains b)
def rF (l s:List UInt8):List UInt8:=(s.reverse.dropWhile (fun b=>l.contains b)).reverse
theorem aP0 (l s:List UInt8) (hl:s.length<=1000000):Fn prog 202 [.str s,.ptr (yF l)] (fun rs=>rs=[.str (rQ l s)]):=by
 refine c7 aTY [] ?_
 dsimp only [aTY,cY,dD]
 repeat' (first|(simp only [cM,↓wA,↓wC,wB,cQ,cP,bW,bX,bY,reduceIte,reduceCtorEq,aA,bZ])|((first|apply cJ|apply cK|apply cI)<;>intro h<;>try simp only [h]))
 refine eM (fun t:List UInt8=>⟨[(0,.d (.str t)),(1,.d (.ptr (yF l)))],[]⟩) (fun t=>rQ l t=rQ l s/\t.length<=1000000) (fun t=>t.length) s (cX _ rfl ⟨⟨rfl,rfl⟩,⟨rfl,rfl⟩,trivial⟩) ⟨rfl,hl⟩ ?_
 rintro t ⟨h1,h2⟩
 cases t with
 | nil =>
  have hd:decide ((0:Int) < ((0:Nat):Int))=false:=rfl
  repeat' (first|(simp only [cM,hd,↓wA,↓wC,wB,cQ,cP,bW,bX,bY,reduceIte,reduceCtorEq,aA,bZ])|((first|apply cJ|apply cK|apply cI)<;>intro h<;>try simp only [h]))
  all_goals (rw [<- h1]; rfl)
 | cons b t =>
  have hd:decide ((0:Int) < ((t.length + 1:Nat):Int))=true:=decide_eq_true (by omega)
  have hC:=aA7 l b
  have h0:(b :: t)[(0:Int).toNat]?=some b:=rfl
  have hdr:(b :: t).drop (1:Int).toNat=t:=rfl
  simp only [aH] at h2
  cases hb:l.contains b with
  | true =>
   rw [hb] at hC
   have e:rQ l (b :: t)=rQ l t:=by unfold rQ; rw [aL,if_pos hb]
   repeat' (first|(simp only [cM,hd,h0,hdr,↓wA,↓wC,wB,cQ,cP,bW,bX,bY,reduceIte,reduceCtorEq,aA,bZ])|(refine cO (hC) rfl rfl ?_)|(refine cR (hC) rfl rfl ?_)|(with_reducible refine cW ?_ ?_; focus omega)|(with_reducible refine cW ?_ ?_; focus (simp; done))|((first|apply cJ|apply cK|apply cI)<;>intro h<;>try simp only [h]))
   all_goals exact ⟨t,(cX _ rfl ⟨⟨rfl,rfl⟩,⟨rfl,rfl⟩,trivial⟩),⟨by rw [<- e]; exact h1,by omega⟩,by simp⟩
  | false =>
   rw [hb] at hC
   have e:rQ l (b :: t)=b :: t:=by unfold rQ; rw [aL,if_neg (by rw [hb]; decide)]
   repeat' (first|(simp only [cM,hd,h0,↓wA,↓wC,wB,cQ,cP,bW,bX,bY,reduceIte,reduceCtorEq,aA,bZ])|(refine cO (hC) rfl rfl ?_)|(refine cR (hC) rfl rfl ?_)|(with_reducible refine cW ?_ ?_; focus omega)|((first|apply cJ|apply cK|apply cI)<;>intro h<;>try simp only [h]))
   all_goals (rw [<- h1,e])
theorem aDR (l s:List UInt8) (b:UInt8):rF l (s ++ [b])=if l.contains b=true then rF l s else s ++ [b]:=by
 unfold rF
 rw [List.reverse_append,List.reverse_singleton,List.singleton_append,aL]
 split
 ·rfl
 ·simp
theorem aPV (l s:List UInt8) (hl:s.length<=1000000):Fn prog 203 [.str s,.ptr (yF l)] (fun rs=>rs=[.str (rF l s)]):=by
 refine c7 aT7 [] ?_
 dsimp only [aT7,cY,dD]
 repeat' (first|(simp only [cM,↓wA,↓wC,wB,cQ,cP,bW,bX,bY,reduceIte,reduceCtorEq,aA,bZ])|((first|apply cJ|apply cK|apply cI)<;>intro h<;>try simp only [h]))
 refine eM (fun t:List UInt8=>⟨[(0,.d (.str t)),(1,.d (.ptr (yF l)))],[]⟩) (fun t=>rF l t=rF l s/\t.length<=1000000) (fun t=>t.length) s (cX _ rfl ⟨⟨rfl,rfl⟩,⟨rfl,rfl⟩,trivial⟩) ⟨rfl,hl⟩ ?_
 rintro t ⟨h1,h2⟩
 rcases bB t with rfl|⟨u,b,rfl⟩
 ·have hd:decide ((0:Int) < ((0:Nat):Int))=false:=rfl
  repeat' (first|(simp only [cM,hd,↓wA,↓wC,wB,cQ,cP,bW,bX,bY,reduceIte,reduceCtorEq,aA,bZ])|((first|apply cJ|apply cK|apply cI)<;>intro h<;>try simp only [h]))
  all_goals (rw [<- h1]; rfl)
 ·rw [bC] at *
  have hlen:(u ++ [b]).length=u.length + 1:=by simp
  rw [hlen] at h2
  have hd:decide ((0:Int) < ((u.length + 1:Nat):Int))=true:=decide_eq_true (by omega)
  have hC:=aA7 l b
  have hn:(((u.length + 1:Nat):Int) - 1).toNat=u.length:=by omega
  have h0:(u ++ [b])[u.length]?=some b:=by simp
  have htk:(u ++ [b]).take u.length=u:=by simp
  have e:=aDR l u b
  cases hb:l.contains b with
  | true =>
   rw [hb] at hC
   rw [if_pos hb] at e
   repeat' (first|(simp only [cM,hlen,hd,hn,h0,htk,↓wA,↓wC,wB,cQ,cP,bW,bX,bY,reduceIte,reduceCtorEq,aA,bZ])|(refine cO (hC) rfl rfl ?_)|(refine cR (hC) rfl rfl ?_)|(with_reducible refine cV ?_ ?_; focus (simp only [eA]; omega))|(with_reducible refine cW ?_ ?_; focus omega)|((first|apply cJ|apply cK|apply cI)<;>intro h<;>try simp only [h]))
   all_goals exact ⟨u,(cX _ rfl ⟨⟨rfl,rfl⟩,⟨rfl,rfl⟩,trivial⟩),⟨by rw [<- e]; exact h1,by omega⟩,by simp⟩
  | false =>
   rw [hb] at hC
   rw [if_neg (by rw [hb]; decide)] at e
   repeat' (first|(simp only [cM,hlen,hd,hn,h0,↓wA,↓wC,wB,cQ,cP,bW,bX,bY,reduceIte,reduceCtorEq,aA,bZ])|(refine cO (hC) rfl rfl ?_)|(refine cR (hC) rfl rfl ?_)|(with_reducible refine cV ?_ ?_; focus (simp only [eA]; omega))|(with_reducible refine cW ?_ ?_; focus omega)|((first|apply cJ|apply cK|apply cI)<;>intro h<;>try simp only [h]))
   all_goals (rw [<- h1,e])
def jI:List UInt8:=[97,98,99,100,101,102,103,104,105,106,107,108,109,110,111,112,113,114,115,116,117,118,119,120,121,122,48,49,50,51,52,53,54,55,56,57,32,45]
def eB (b:UInt8):Bool:=dE (b.toNat:Int) 97 122 || dE (b.toNat:Int) 48 57 || decide ((b.toNat:Int)=32) || decide ((b.toNat:Int)=45)
theorem aVT (b:UInt8):jI.contains b=eB b:=by
 have h:∀ n,n < 256->jI.contains (aM n)=eB (aM n):=by decide
 have:=h b.toNat b.toNat_lt
 rwa [bH] at this
theorem sZ {p:UInt8->Bool}:∀ (s:List UInt8),s.dropWhile p=[]↔s.all p=true
 | []=>by simp
 | b :: s=>by
  rw [aL]
  cases hb:p b with
  | true=>simp [hb,sZ s]
  | false=>simp [hb]
theorem aM3 (l:List UInt8):∀ (n:Nat) (s:List UInt8),s.length=n->(rQ l (rF l s)=[]↔s.all (fun b=>l.contains b)=true):=by
 intro n
 induction n with
 | zero =>
  intro s hs
  obtain rfl:=List.eq_nil_of_length_eq_zero hs
  simp [rQ,rF]
 | succ n IH =>
 intro s hs
 unfold rQ
 rw [sZ]
 rcases bB s with rfl|⟨u,b,rfl⟩
 ·simp [rF]
 ·rw [bC,aDR]
  split
  ·rename_i hb
   have ih:=IH u (by simpa using hs)
   unfold rQ at ih
   rw [sZ] at ih
   rw [ih,bJ]
   simp only [bT,List.all_nil,hb,bR]
  ·rfl
theorem aPD (l s:List UInt8):rQ l (rF l s)=[]↔s.all (fun b=>l.contains b)=true:=aM3 l _ s rfl
def lV (s:List UInt8):Bool:=dE s.length 1 40 && s.all eB
def aVp:D:=.st (kN (bQ 256 (D.bool false)))
theorem aJG (l:List UInt8):(yF l).noOwn=true:=pO (f:=D.bool) (fun _=>rfl) (aCv l)
theorem aJp (l:List UInt8):(yF l).unown=yF l:=by
 show D.st (dl D.bool (aCv l)).unown=_
 rw [s7 (fun _=>rfl)]; rfl
theorem aEj:∀ L:List Bool,(dl D.bool L).size=L.length
 | []=>rfl
 | b :: L=>by
  have:=aEj L
  show 1 + (dl D.bool L).size=L.length + 1
  omega
theorem aL2 (l:List UInt8):(yF l).size=256:=by
 show (dl D.bool (aCv l)).size=256
 rw [aEj]; simp [aCv]
theorem aSk (s:List UInt8) (h0:0 < s.length) (hl:s.length<=1000):Fn prog 165 [.str s,.str jI] (fun rs=>rs=[.str (rQ jI (rF jI s))]):=by
 have hM:=aJM jI (by decide) (by decide)
 have hR:=aPV jI s (by omega)
 have hrl:(rF jI s).length<=s.length:=by
  unfold rF
  have:=(a8 (p:=fun b=>jI.contains b) (l:=s.reverse)).length_le
  simpa using this
 have hL:=aP0 jI (rF jI s) (by omega)
 have d1:decide (s=[])=false:=decide_eq_false (fun h=>by rw [h] at h0; simp at h0)
 have d2:decide (jI=[])=false:=rfl
 have d3:decide ((jI.length:Int)=1)=false:=rfl
 have n1:(yF jI).noOwn=true:=aJG _
 have n2:(yF jI).isV=true:=rfl
 have n3:=aL2 jI
 have n4:(yF jI).unown=yF jI:=aJp _
 have hz:D.st (kN (bQ 256 (D.bool false)))=aVp:=rfl
 have n5:aVp.size=256:=rfl
 refine c7 aUs [[1,1,1,0,1,1,0,0]] ?_
 dsimp only [aUs,cY,dD]
 conv in (D.st (D.cons (D.bool false) _))=>change aVp
 generalize aVp=Z at n5
 repeat' (first|(simp only [cM,d1,d2,d3,n1,n2,n3,n5,↓wA,↓wC,wB,cQ,cP,bW,bX,bY,reduceIte,reduceCtorEq,aA,bZ])|(refine cO (hM) rfl rfl ?_)|(refine cR (hM) rfl rfl ?_)|((first|apply cJ|apply cK|apply cI)<;>intro h<;>try simp only [h]))
 refine dF (iV 0 rfl) ?_
 repeat' (first|(simp only [cM,n4,↓wA,↓wC,wB,cQ,cP,bW,bX,bY,reduceIte,reduceCtorEq,aA,bZ])|(refine cO (hR) rfl rfl ?_)|(refine cR (hR) rfl rfl ?_)|(refine cO (hL) rfl rfl ?_)|(refine cR (hL) rfl rfl ?_)|((first|apply cJ|apply cK|apply cI)<;>intro h<;>try simp only [h]))
 all_goals trace_state
end Go.Pe.Tryz
