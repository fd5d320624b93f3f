/- Records of a log: what a valid one is, walked; What a valid record is, and a record among the laws' helpers, walked; The lines of a log as plain lists of bytes: what a line is, how it is read, that there is one way alone; Numbers as decimal text: the library's, and the reference's own road to it; The law of EncodeRecord, walked; Logs read, as plain lists: cuts, parts, the records of a text; A text cut, split, verified, walked; The records at the start of a text: the program's road, the reference's; The reference's road through a text of records; What a valid log is; the laws of RecoverLog, IsValidLog, SyncLog; The law of AppendRecord; The law of LogRecords: marks on records; Appeals among the laws' helpers: sizes, copies, equality; walked; Lists of appeals among the laws' helpers: sizes and copies; walked; Copies of lists of appeals, walked; Small tests of appeals, walked; Rising lists, walked; Is an appeal valid? walked; Valid appeals, walked; Valid lists of appeals, walked; Offices among the laws' helpers: sizes, copies, equality; walked; Entries of a ledger: strings.Trim, walked; what an entry is -/
import Derived.Test.YtjmobminbckhjaaGreatDoorPeD
import Derived.Test.YtjmobminbckhjaaGreatDoorMc1
import Derived.Test.YtjmobminbckhjaaGreatDoorMc2
import Derived.Test.YtjmobminbckhjaaGreatDoorMc3
import Derived.Test.YtjmobminbckhjaaGreatDoorMc4
import Derived.Test.YtjmobminbckhjaaGreatDoorMc5
import Derived.Test.YtjmobminbckhjaaGreatDoorMc6
import Derived.Test.YtjmobminbckhjaaGreatDoorMc7
import Derived.Test.YtjmobminbckhjaaGreatDoorMc8
import Derived.Test.YtjmobminbckhjaaGreatDoorShelf
import Derived.Lib.ItoaNum
import Derived.Lib.IndexMore
import Derived.Lib.ItoaLen
import Derived.Lib.AsciiSet
set_option maxRecDepth 100000
set_option maxHeartbeats 4000000
set_option linter.all false
open Bool renaming and_eq_true->aR, and_true->bR
open Int renaming toNat_natCast->aA, toNat_zero->aO, tmod_eq_emod_of_nonneg->aS, eq_ofNat_of_zero_le->a7
open List renaming length_append->aB, length_singleton->aC, contains_iff_mem->aE, take_succ_eq_append_getElem->aF, length_cons->aH, take_of_length_le->aI, dropWhile_cons->aJ, mem_cons->aK, mem_of_getElem?->aM, length_drop->aN, mem_singleton->aP, length_nil->aQ, takeWhile_cons->aU, mem_append->aV, drop_eq_getElem_cons->aW, cons_append->aX, take_length->aY, all_eq_true->aZ, append_cancel_right->a6, dropWhile_sublist->a8, drop_drop->bA, eq_nil_or_concat->bB, concat_eq_append->bC, getD->bE, all_eq_false->bF, foldl_append->bG, all_append->bJ, drop_left'->bM, isPrefixOf->bP, replicate->bQ, all_cons->bT, range->bV
open Nat renaming reduceBEq->aG, zero_le->aT, le_trans->bD, strongRecOn->bL, le_refl->bU, reduceEqDiff->bW, reduceAdd->bX, reduceSub->bY, reduceLT->bZ
open Option renaming map_some->aD
open UInt8 renaming ofNat->aL, ofNat_toNat->bH, toNat_inj->bK
namespace Go.Pe.Tryz
open Go.Proofs.Tryz
def c6 (n a b:Int):Bool:=decide (a<=n) && decide (n<=b)
theorem eT (n a b:Int):Fn prog 67 [.int .i64 n,.int .i64 a,.int .i64 b] (fun rs=>rs=[.bool (c6 n a b)]):=by
 refine cW aU6 [] ?_
 dsimp only [aU6,m67,rF,cS,cE,cR,c8]
 try simp only [wQ]
 simp only [↓wA,↓wC,wB,bW,bX,reduceIte,reduceCtorEq]
 refine cH (fun h=>?_) (fun h=>?_)<;>simp only [h,↓wA,↓wC,wB,bW,reduceIte,reduceCtorEq]
 all_goals simp [c6,h]
theorem iA (n a b:Int):Fn prog 85 [.int .i64 n,.int .i64 a,.int .i64 b] (fun rs=>rs=[.bool (c6 n a b)]):=by
 refine cW aUE [] ?_
 dsimp only [aUE,m85,rF,cS,cE,cR,c8]
 try simp only [wQ]
 simp only [↓wA,↓wC,wB,bW,bX,reduceIte,reduceCtorEq]
 refine cH (fun h=>?_) (fun h=>?_)<;>simp only [h,↓wA,↓wC,wB,bW,reduceIte,reduceCtorEq]
 all_goals simp [c6,h]
def isP (b:UInt8):Bool:=c6 (b.toNat:Int) 32 126 && !decide ((b.toNat:Int)=35)
def plain (s:List UInt8):Bool:=s.all isP
theorem aCr {s:List UInt8} {i:Nat} {b:UInt8} (h:s[i]?=some b) (hp:plain (s.take i)=true) (hb:isP b=true):plain (s.take (i + 1))=true:=by
 have hi:=cQ h
 rw [aF hi]
 have:s[i]=b:=by rw [List.getElem?_eq_getElem hi] at h; injection h
 unfold plain at *
 rw [bJ,hp,this]
 simp [hb]
theorem aCc {s:List UInt8} {i:Nat} {b:UInt8} (h:s[i]?=some b) (hb:isP b=false):plain s=false:=by
 unfold plain
 rw [bF]
 exact ⟨b,aM h,by simp [hb]⟩
theorem d5:maxLen=9223372036854775807:=rfl
theorem sA (s:List UInt8) (hl:s.length<=maxLen):Fn prog 68 [.str s] (fun rs=>rs=[.bool (plain s)]):=by
 rw [d5] at hl
 refine cW aTM [] ?_
 dsimp only [aTM,m68,rF,cS,cE,cR,c8]
 try simp only [wQ]
 simp only [↓wA,↓wC,wB,bW,reduceIte,reduceCtorEq]
 refine eK (fun i:Nat=>⟨[(0,.d (.str s)),(5,.d (.int .i64 s.length)),(6,.d (.int .i64 i))],[]⟩)
  (fun i=>i<=s.length/\plain (s.take i)=true) (fun i=>s.length - i) 0 (cV [] rfl ⟨⟨rfl,rfl⟩,⟨rfl,rfl⟩,⟨rfl,rfl⟩,trivial⟩) ⟨aT _,by simp [plain]⟩ ?_
 rintro i ⟨hi,hp⟩
 by_cases hlt:i < s.length
 ·obtain ⟨b,hb⟩:=dW hlt
  have hd:decide ((i:Int) < (s.length:Int))=true:=decide_eq_true (by omega)
  have h0:(0:Int)<=(i:Int):=by omega
  repeat' (first|(simp only [hd,h0,hb,aA,cK,↓wA,↓wC,wB,bW,reduceIte,reduceCtorEq])|(refine cM (by simp only [dX]; omega) ?_)|((first|apply cH|apply cI|apply cG)<;>intro h<;>try simp only [h]))
  all_goals first
   |(refine (congrArg (fun x=>[D.bool x]) (aCc hb ?_)).symm; simp_all [isP,c6]; done)
   |(refine (congrArg (fun x=>[D.bool x]) (aCc hb ?_)).symm; simp_all [isP,c6]; omega)
   |(exact ⟨i + 1,cV [] rfl ⟨⟨rfl,rfl⟩,⟨rfl,rfl⟩,⟨rfl,rfl⟩,trivial⟩,⟨by omega,aCr hb hp (by simp_all [isP,c6]<;>omega)⟩,by omega⟩)
 ·have hd:decide ((i:Int) < (s.length:Int))=false:=decide_eq_false (by omega)
  simp only [hd,↓wA,↓wC,wB,bW,reduceIte,reduceCtorEq]
  rw [aI (by omega)] at hp
  rw [hp]
theorem pN (s:List UInt8) (m:Int) (hl:s.length<=maxLen):Fn prog 54 [.str s,.int .i64 m] (fun rs=>rs=[.bool (plain s && decide ((s.length:Int)<=m))]):=by
 rw [d5] at hl
 refine cW aUk [] ?_
 dsimp only [aUk,m54,rF,cS,cE,cR,c8]
 try simp only [wQ]
 simp only [↓wA,↓wC,wB,bW,bX,reduceIte,reduceCtorEq]
 refine eK (fun i:Nat=>⟨[(0,.d (.str s)),(1,.d (.int .i64 m)),(5,.d (.int .i64 i))],[]⟩)
  (fun i=>i<=s.length/\plain (s.take i)=true) (fun i=>s.length - i) 0 (cV [] rfl ⟨⟨rfl,rfl⟩,⟨rfl,rfl⟩,⟨rfl,rfl⟩,trivial⟩) ⟨aT _,by simp [plain]⟩ ?_
 rintro i ⟨hi,hp⟩
 by_cases hlt:i < s.length
 ·obtain ⟨b,hb⟩:=dW hlt
  have hd:decide ((i:Int) < (s.length:Int))=true:=decide_eq_true (by omega)
  have h0:(0:Int)<=(i:Int):=by omega
  have hbl:(b.toNat:Int) < 256:=by have:=b.toNat_lt; omega
  repeat' (first|(simp only [hd,h0,hb,aA,cK,↓wA,↓wC,wB,bW,reduceIte,reduceCtorEq])|(refine cJ (iA _ _ _) rfl rfl ?_)|(refine cL (iA _ _ _) rfl rfl ?_)|(refine cM (by simp only [dX]; omega) ?_)|((first|apply cH|apply cI|apply cG)<;>intro h<;>try simp only [h]))
  all_goals first
   |(rw [aCc hb (by simp_all [isP])]; rfl)
   |(exact ⟨i + 1,cV [] rfl ⟨⟨rfl,rfl⟩,⟨rfl,rfl⟩,⟨rfl,rfl⟩,trivial⟩,⟨by omega,aCr hb hp (by simp_all [isP])⟩,by omega⟩)
 ·have hd:decide ((i:Int) < (s.length:Int))=false:=decide_eq_false (by omega)
  simp only [hd,↓wA,↓wC,wB,bW,reduceIte,reduceCtorEq]
  rw [aI (by omega)] at hp
  rw [hp]
  simp
theorem aAs (s:List UInt8) (c:UInt8) (hl:s.length<=maxLen):Fn prog 55 [.str s,.int .u8 (c.toNat:Int)] (fun rs=>rs=[.bool (s.contains c)]):=by
 rw [d5] at hl
 refine cW aVT [] ?_
 dsimp only [aVT,m55,rF,cS,cE,cR,c8]
 try simp only [wQ]
 simp only [↓wA,↓wC,wB,bW,bX,reduceIte,reduceCtorEq]
 refine eK (fun i:Nat=>⟨[(0,.d (.str s)),(1,.d (.int .u8 (c.toNat:Int))),(5,.d (.int .i64 i))],[]⟩)
  (fun i=>i<=s.length/\c ∉ s.take i) (fun i=>s.length - i) 0 (cV [] rfl ⟨⟨rfl,rfl⟩,⟨rfl,rfl⟩,⟨rfl,rfl⟩,trivial⟩) ⟨aT _,by simp⟩ ?_
 rintro i ⟨hi,hp⟩
 by_cases hlt:i < s.length
 ·obtain ⟨b,hb⟩:=dW hlt
  have hd:decide ((i:Int) < (s.length:Int))=true:=decide_eq_true (by omega)
  have h0:(0:Int)<=(i:Int):=by omega
  have hbc:decide ((b.toNat:Int)=(c.toNat:Int))=decide (b=c):=by
   apply decide_eq_decide.2
   constructor
   ·intro h; exact bK.1 (by omega)
   ·intro h; rw [h]
  by_cases hc:b=c
  ·have hm:s.contains c=true:=by rw [aE]; rw [<- hc]; exact aM hb
   simp only [hd,h0,hb,aA,cK,hc,hm,↓wA,↓wC,wB,bW,reduceIte,reduceCtorEq]
  ·simp only [hd,h0,hb,aA,cK,hbc,hc,↓wA,↓wC,wB,bW,reduceIte,reduceCtorEq]
   refine cM (by simp only [dX]; omega) ?_
   refine ⟨i + 1,cV [] rfl ⟨⟨rfl,rfl⟩,⟨rfl,rfl⟩,⟨rfl,rfl⟩,trivial⟩,⟨by omega,?_⟩,by omega⟩
   have hi:=cQ hb
   rw [aF hi]
   have:s[i]=b:=by rw [List.getElem?_eq_getElem hi] at hb; injection hb
   rw [this]
   simp only [aV,aP,not_or]
   exact ⟨hp,fun h=>hc h.symm⟩
 ·have hd:decide ((i:Int) < (s.length:Int))=false:=decide_eq_false (by omega)
  simp only [hd,↓wA,↓wC,wB,bW,reduceIte,reduceCtorEq]
  rw [aI (by omega)] at hp
  have:s.contains c=false:=by
   cases h:s.contains c with
   | false=>rfl
   | true=>exact absurd (aE.1 h) hp
  rw [this]
def fV (c r:List UInt8):Bool:=c6 c.length 1 160 && decide ((r.length:Int)<=200) && plain c && plain r && !c.contains 64
def lZ (c r:List UInt8):D:=.st (.cons (.str c) (.cons (.str r) .nil))
theorem vY (c r:List UInt8) (hc:c.length<=maxLen) (hr:r.length<=maxLen):Fn prog 30 [lZ c r] (fun rs=>rs=[.bool (fV c r)]):=by
 have hne:(!decide (c=([]:List UInt8)))=decide (1<=(c.length:Int)):=by
  cases c with
  | nil=>rfl
  | cons a c=>simp; omega
 have h64:(64:Int)=((64:UInt8).toNat:Int):=rfl
 refine cW aUI [] ?_
 dsimp only [aUI,m30,rF,cS,cE,cR,c8]
 try simp only [wQ]
 simp only [lZ]
 repeat' (first|(simp only [hne,↓wA,↓wC,wB,bW,reduceIte,reduceCtorEq])|(refine cJ (pN _ _ hc) rfl rfl ?_)|(refine cL (pN _ _ hc) rfl rfl ?_)|(refine cJ (pN _ _ hr) rfl rfl ?_)|(refine cL (pN _ _ hr) rfl rfl ?_)|(refine cJ (aAs c 64 hc) rfl rfl ?_)|(refine cL (aAs c 64 hc) rfl rfl ?_)|((first|apply cH|apply cI|apply cG)<;>intro h<;>try simp only [h]))
 all_goals (cases hpc:plain c<;>cases hpr:plain r<;>simp_all [fV,c6]<;>omega)
theorem vH:∀ (s:List UInt8) (c:UInt8),decide (0<=Go.Lib.indexByte s c)=s.contains c
 | [],c=>by simp [Go.Lib.indexByte]
 | b :: s,c=>by
  have ih:=vH s c
  have hge:=Go.Lib.indexByte_ge s c
  unfold Go.Lib.indexByte
  by_cases h:b=c
  ·simp [h]
  ·have h1:(b == c)=false:=by simpa using h
   have h2:(b :: s).contains c=s.contains c:=by simp [h,eq_comm]
   simp only [h1,Bool.false_eq_true,if_false,h2]
   rw [<- ih]
   split
   ·rename_i h3
    have:Go.Lib.indexByte s c=-1:=by simpa using h3
    simp [this]
   ·rename_i h3
    have:Go.Lib.indexByte s c≠-1:=by simpa using h3
    apply decide_eq_decide.2
    omega
theorem i7 (s:List UInt8) (c:UInt8):Fn prog 69 [.str s,.str [c]] (fun rs=>rs=[.bool (s.contains c)]) :=
 aHV rfl rfl fun w _=>(Go.Proofs.Tryz.strings_Contains_one ⟨s.toArray⟩ c w).mono (by
  rintro e w' ⟨rfl,rfl⟩
  refine ⟨?_,kN.refl _⟩
  rw [<- vH]
  simp [qY])
theorem mJ (c r:List UInt8) (hc:c.length<=maxLen) (hr:r.length<=maxLen):Fn prog 36 [lZ c r] (fun rs=>rs=[.bool (fV c r)]):=by
 refine cW aWf [] ?_
 dsimp only [aWf,m36,rF,cS,cE,cR,c8]
 try simp only [wQ]
 simp only [lZ]
 repeat' (first|(simp only [↓wA,↓wC,wB,bW,reduceIte,reduceCtorEq])|(refine cJ (eT _ _ _) rfl rfl ?_)|(refine cL (eT _ _ _) rfl rfl ?_)|(refine cJ (sA _ hc) rfl rfl ?_)|(refine cL (sA _ hc) rfl rfl ?_)|(refine cJ (sA _ hr) rfl rfl ?_)|(refine cL (sA _ hr) rfl rfl ?_)|(refine cJ (i7 c 64) rfl rfl ?_)|(refine cL (i7 c 64) rfl rfl ?_)|((first|apply cH|apply cI|apply cG)<;>intro h<;>try simp only [h]))
 all_goals (cases hpc:plain c<;>cases hpr:plain r<;>simp_all [fV,c6]<;>omega)
end Go.Pe.Tryz
namespace Go.Pe.Tryz
def aVy (b:UInt8):Prop:=b=45\/(48<=b.toNat/\b.toNat<=57)
theorem kW:∀ (u:Nat),∀ b∈Lib.decDigits u,48<=b.toNat/\b.toNat<=57:=by
 intro u
 induction u using bL with
 | _ u ih =>
  intro b hb
  rw [Lib.decDigits] at hb
  have one:∀ d:Nat,d < 10->(aL (48 + d)).toNat=48 + d:=fun d hd=>by
   rw [UInt8.toNat_ofNat']; omega
  by_cases h:u < 10
  ·rw [dif_pos h] at hb
   simp only [aP] at hb
   rw [hb,one u h]; omega
  ·rw [dif_neg h] at hb
   rcases aV.1 hb with hb|hb
   ·exact ih (u / 10) (by omega) b hb
   ·simp only [aP] at hb
    rw [hb,one (u % 10) (by omega)]; omega
theorem aL1 (n:Int):∀ b∈Lib.itoa n,aVy b:=by
 intro b hb
 unfold Lib.itoa at hb
 split at hb
 ·rcases aK.1 hb with hb|hb
  ·exact .inl hb
  ·exact .inr (kW _ b hb)
 ·exact .inr (kW _ b hb)
theorem aGD (n:Int) (c:UInt8) (hc:c≠45) (h:c.toNat < 48\/57 < c.toNat):c ∉ Lib.itoa n:=fun hm=>by
 rcases aL1 n c hm with h1|h1
 ·exact hc h1
 ·omega
theorem l6 (u:Nat):Lib.decDigits u≠[]:=by
 rw [Lib.decDigits]
 by_cases h:u < 10
 ·rw [dif_pos h]; simp
 ·rw [dif_neg h]; simp
def cX (x:UInt8) (s:List UInt8):List UInt8:=s.takeWhile (· != x)
def after (x:UInt8) (s:List UInt8):List UInt8:=(s.dropWhile (· != x)).drop 1
theorem oL {x:UInt8}:∀ {s t:List UInt8},x ∉ s->cX x (s ++ x :: t)=s
 | [],t,_=>by simp [cX]
 | b :: s,t,h=>by
  simp only [aK,not_or] at h
  have hb:(b != x)=true:=by simpa [bne_iff_ne] using fun e=>h.1 e.symm
  have:=oL (t:=t) h.2
  unfold cX at *
  simp only [aX,aU,hb,if_true,this]
theorem vA {x:UInt8}:∀ {s t:List UInt8},x ∉ s->after x (s ++ x :: t)=t
 | [],t,_=>by simp [after]
 | b :: s,t,h=>by
  simp only [aK,not_or] at h
  have hb:(b != x)=true:=by simpa [bne_iff_ne] using fun e=>h.1 e.symm
  have:=vA (t:=t) h.2
  unfold after at *
  simp only [aX,aJ,hb,if_true,this]
theorem nA {x:UInt8}:∀ {s:List UInt8},x ∉ s->cX x s=s
 | [],_=>rfl
 | b :: s,h=>by
  simp only [aK,not_or] at h
  have hb:(b != x)=true:=by simpa [bne_iff_ne] using fun e=>h.1 e.symm
  have:=nA h.2
  unfold cX at *
  simp only [aU,hb,if_true,this]
theorem aBH {x:UInt8}:∀ {s:List UInt8},x ∉ s->after x s=[]
 | [],_=>rfl
 | b :: s,h=>by
  simp only [aK,not_or] at h
  have hb:(b != x)=true:=by simpa [bne_iff_ne] using fun e=>h.1 e.symm
  have:=aBH h.2
  unfold after at *
  simp only [aJ,hb,if_true,this]
theorem x6 {x:UInt8}:∀ {s:List UInt8},x∈s->s=cX x s ++ x :: after x s
 | b :: s,h=>by
  by_cases e:b=x
  ·subst e; simp [cX,after]
  ·have hb:(b != x)=true:=by simpa [bne_iff_ne] using e
   have hm:x∈s:=by
    rcases aK.1 h with h|h
    ·exact absurd h.symm e
    ·exact h
   have ih:=x6 hm
   unfold cX after at *
   simp only [aU,aJ,hb,if_true,aX]
   rw [<- ih]
theorem aCE (x:UInt8):∀ (s:List UInt8),x ∉ cX x s
 | []=>by simp [cX]
 | b :: s=>by
  by_cases e:b=x
  ·subst e; simp [cX]
  ·have hb:(b != x)=true:=by simpa [bne_iff_ne] using e
   have ih:=aCE x s
   unfold cX at *
   simp only [aU,hb,if_true,aK,not_or]
   exact ⟨fun h=>e h.symm,ih⟩
theorem lL (x:UInt8) (s:List UInt8):(cX x s).length<=s.length:=(List.takeWhile_sublist _).length_le
theorem rD {x:UInt8} {s:List UInt8} (h:x∈s):(cX x s).length + 1 + (after x s).length=s.length:=by
 have:=congrArg List.length (x6 h)
 simp at this; omega
theorem aFh {x:UInt8} (s:List UInt8):cX x s=s.take (cX x s).length:=by
 by_cases h:x∈s
 ·have h1:(cX x s ++ x :: after x s).take (cX x s).length=cX x s:=List.take_left' rfl
  rw [<- x6 h] at h1
  exact h1.symm
 ·rw [nA h,aY]
theorem wX {x:UInt8} {s:List UInt8} (h:x∈s):after x s=s.drop ((cX x s).length + 1):=by
 have h1:(cX x s ++ x :: after x s).drop ((cX x s).length + 1)=after x s:=by
  rw [<- bA,bM rfl]; rfl
 rw [<- x6 h] at h1
 exact h1.symm
def ckf (h:Int) (b:UInt8):Int:=(41 * h + (b.toNat:Int) + 1) % 999979
def ck (s:List UInt8):Int:=s.foldl ckf 7
theorem aBL (s:List UInt8):0<=ck s/\ck s < 999979:=by
 unfold ck
 have:∀ (s:List UInt8) (h:Int),0<=h/\h < 999979->0<=s.foldl ckf h/\s.foldl ckf h < 999979:=by
  intro s
  induction s with
  | nil=>intro h hh; exact hh
  | cons b s ih =>
   intro h hh
   refine ih _ ?_
   unfold ckf
   omega
 exact this s 7 (by omega)
def iO (s:List UInt8):List UInt8:=s ++ 35 :: Lib.itoa (ck s)
def body (k:Int) (c r:List UInt8):List UInt8:=Lib.itoa k ++ 32 :: (c ++ 64 :: r)
def lD (k:Int) (c r:List UInt8):List UInt8:=iO (body k c r)
theorem aD4 {s:List UInt8} (h:plain s=true) {x:UInt8} (hx:isP x=false):x ∉ s:=fun hm=>by
 have:=(aZ.1 h) x hm
 rw [hx] at this; cases this
theorem kE {c r:List UInt8} (h:fV c r=true):1<=c.length/\c.length<=160/\r.length<=200/\plain c=true/\plain r=true/\(64:UInt8) ∉ c:=by
 simp only [fV,c6,aR,decide_eq_true_eq,Bool.not_eq_true'] at h
 obtain ⟨⟨⟨⟨⟨h1,h2⟩,h3⟩,h4⟩,h5⟩,h6⟩:=h
 refine ⟨by omega,by omega,by omega,h4,h5,fun hm=>?_⟩
 rw [aE.2 hm] at h6; cases h6
theorem aEe {k:Int} {c r:List UInt8} (h:fV c r=true):(35:UInt8) ∉ body k c r:=by
 obtain ⟨_,_,_,hc,hr,_⟩:=kE h
 unfold body
 simp only [aV,aK,not_or]
 exact ⟨aGD k 35 (by decide) (by decide),by decide,aD4 hc (by decide),by decide,aD4 hr (by decide)⟩
def rd (k:Int) (L:List UInt8):Option (List UInt8×List UInt8) :=
 let rest:=(cX 35 L).drop ((Lib.itoa k).length + 1)
 if fV (cX 64 rest) (after 64 rest)=true/\lD k (cX 64 rest) (after 64 rest)=L then some (cX 64 rest,after 64 rest) else none
theorem tZ {k:Int} {c r:List UInt8} (h:fV c r=true):cX 35 (lD k c r)=body k c r:=oL (aEe h)
theorem aD8 {k:Int} {c r:List UInt8}:(body k c r).drop ((Lib.itoa k).length + 1)=c ++ 64 :: r:=by
 unfold body
 rw [<- bA,bM rfl]; rfl
theorem zE {k:Int} {L c r:List UInt8}:rd k L=some (c,r)↔fV c r=true/\lD k c r=L:=by
 constructor
 ·intro h
  simp only [rd] at h
  split at h
  ·rename_i h1
   injection h with h
   injection h with h2 h3
   subst h2 h3
   exact h1
  ·cases h
 ·rintro ⟨h1,rfl⟩
  have h64:=(kE h1).2.2.2.2.2
  simp only [rd,tZ h1,aD8,oL h64,vA h64]
  rw [if_pos ⟨h1,trivial⟩]
def f5:Nat->Int->List UInt8->List (List UInt8×List UInt8)×Nat
 | 0,_,_=>([],0)
 | n + 1,k,s=>if (10:UInt8)∈s then
     match rd k (cX 10 s) with
     | some e=>(e :: (f5 n (k + 1) (after 10 s)).1,(cX 10 s).length + 1 + (f5 n (k + 1) (after 10 s)).2)
     | none=>([],0)
  else ([],0)
theorem qK:∀ (n:Nat) (k:Int) (s:List UInt8),(f5 n k s).2<=s.length/\(f5 n k s).1.length<=n
 | 0,_,_=>by simp [f5]
 | n + 1,k,s=>by
  simp only [f5]
  split
  ·rename_i h
   split
   ·have ih:=qK n (k + 1) (after 10 s)
    have:=rD h
    simp only [aH]
    omega
   ·simp
  ·simp
end Go.Pe.Tryz
namespace Go.Pe.Tryz
open Go.Proofs.Tryz Go.Sort
theorem kN.grow {w:World} (k:Nat) (os:Array Obj):kN w (Go.Sort.grow (w.drewN k) os):=by
 refine ⟨rfl,rfl,rfl,?_,?_⟩
 ·simp [Go.Sort.grow,World.drewN]
 ·intro b hb
  simp only [Go.Sort.grow]
  exact Array.getElem?_append_left (xs:=w.heap) (ys:=os) hb
theorem aIU (n:Int) (h:dX .i64 n):Fn prog 144 [.int .i64 n] (fun rs=>rs=[.str (Lib.itoa n)]) :=
 aHV rfl rfl fun w hF=>(Go.Proofs.Tryz.strconv_Itoa n (by simp only [dX] at h; omega) (by simp only [dX] at h; omega) w (aUQ hF)).mono (by
  rintro e w' ⟨rfl,k,os,rfl⟩
  exact ⟨rfl,kN.grow k os⟩)
theorem eZ (n:Int) (h:dX .i64 n):Fn prog 106 [.int .i64 n] (fun rs=>rs=[.str (Lib.itoa n)]):=by
 refine cW aQ6 [] ?_
 dsimp only [aQ6,aVh,rF,cS,cE,cR,c8]
 try simp only [wQ]
 repeat' (first|(simp only [↓wA,↓wC,wB,bW,reduceIte,reduceCtorEq])|(refine cJ (aIU n h) rfl rfl ?_)|(refine cL (aIU n h) rfl rfl ?_)|((first|apply cH|apply cI|apply cG)<;>intro h<;>try simp only [h]))
theorem aJW:∀ d:Fin 10,((([48,49,50,51,52,53,54,55,56,57]:List UInt8).take (d.val + 1)).drop d.val)=[aL (48 + d.val)]:=by decide
theorem sW {u:Nat} (h:u < 10):Lib.decDigits u=[aL (48 + u)]:=by
 rw [Lib.decDigits,dif_pos h]
theorem tG {u:Nat} (h:¬ u < 10):Lib.decDigits u=Lib.decDigits (u / 10) ++ [aL (48 + u % 10)]:=by
 rw [Lib.decDigits,dif_neg h]
theorem aDP (d:Nat) (h:d < 10):((([48,49,50,51,52,53,54,55,56,57]:List UInt8).take (d + 1)).drop d)=[aL (48 + d)]:=aJW ⟨d,h⟩
theorem aFP (u:Nat):Lib.itoa (u:Int)=Lib.decDigits u:=by
 unfold Lib.itoa
 rw [if_neg (by omega)]
 simp
theorem xB (u:Nat) (h:u<=9223372036854775807):(Lib.decDigits u).length<=21:=by
 rw [<- aFP]
 exact Lib.itoa_length_le (u:Int) (by omega) (by omega)
theorem eL (n:Int) (h:dX .i64 n):(Lib.itoa n).length<=21:=by
 simp only [dX] at h
 exact Lib.itoa_length_le n (by omega) (by omega)
theorem aK8:∀ (u:Nat),u<=9223372036854775807->Fn prog 89 [.int .i64 (u:Int)] (fun rs=>rs=[.str (Lib.decDigits u)]):=by
 intro u
 induction u using bL with
 | _ u ih =>
  intro hu
  have h0:decide ((u:Int) < 0)=false:=decide_eq_false (by omega)
  refine cW aQm [] ?_
  dsimp only [aQm,m89,rF,cS,cE,cR,c8]
  try simp only [wQ]
  try simp only [h0,↓wA,↓wC,wB,bW,reduceIte,reduceCtorEq]
  by_cases h:u < 10
  ·have hd:decide ((u:Int) < 10)=true:=decide_eq_true (by omega)
   have hp:(0:Int)<=(u:Int):=by omega
   try simp only [hd,↓wA,↓wC,wB,bW,reduceIte,reduceCtorEq]
   refine cM (by simp only [dX]; omega) ?_
   try simp only [hp,↓wA,wB,bX]
   refine cO ⟨by omega,by omega⟩ ?_
   rw [show ((u:Int) + 1).toNat=u + 1 by omega,aA,aDP u h,sW h]
  ·have hd:decide ((u:Int) < 10)=false:=decide_eq_false (by omega)
   have hq:((u:Int)).tdiv 10=((u / 10:Nat):Int):=by rw [Int.tdiv_eq_ediv_of_nonneg (by omega)]; omega
   have hr:((u:Int)).tmod 10=((u % 10:Nat):Int):=by rw [aS (by omega)]; omega
   try simp only [hd,hq,hr,↓wA,↓wC,reduceIte,reduceCtorEq]
   refine cO (by decide) ?_
   refine cM (by simp only [dX]; omega) ?_
   refine cL (ih (u / 10) (by omega) (by omega)) rfl rfl ?_
   try simp only [wB]
   refine cO (by decide) ?_
   refine cO (by decide) ?_
   refine cM (by simp only [dX]; omega) ?_
   have hp:(0:Int)<=((u % 10:Nat):Int):=by omega
   try simp only [hp,↓wA,wB,bX]
   refine cO ⟨by omega,by omega⟩ ?_
   rw [show (((u % 10:Nat):Int) + 1).toNat=u % 10 + 1 by omega,aA,aDP (u % 10) (by omega)]
   try simp only [wB]
   refine cO (by have:=xB (u / 10) (by omega); omega) ?_
   rw [tG h]
theorem fI (n:Int) (h0:0<=n) (h:dX .i64 n):Fn prog 89 [.int .i64 n] (fun rs=>rs=[.str (Lib.itoa n)]):=by
 obtain ⟨u,rfl⟩:=a7 h0
 rw [aFP]
 exact aK8 u (by simp only [dX] at h; omega)
theorem jZ (s:List UInt8) (hl:s.length<=maxLen):Fn prog 160 [.str s] (fun rs=>rs=[.int .i64 (ck s)]):=by
 rw [d5] at hl
 refine cW aQx [] ?_
 dsimp only [aQx,aVx,rF,cS,cE,cR,c8]
 try simp only [wQ]
 simp only [↓wA,↓wC,wB,bW,reduceIte,reduceCtorEq]
 refine eK (fun i:Nat=>⟨[(0,.d (.str s)),(3,.d (.int .i64 (ck (s.take i)))),(6,.d (.int .i64 s.length)),(7,.d (.int .i64 i))],[]⟩)
  (fun i=>i<=s.length) (fun i=>s.length - i) 0 (cV [] rfl ⟨⟨rfl,rfl⟩,⟨rfl,rfl⟩,⟨rfl,rfl⟩,⟨rfl,rfl⟩,trivial⟩) (aT _) ?_
 rintro i hi
 by_cases hlt:i < s.length
 ·obtain ⟨b,hb⟩:=dW hlt
  have hd:decide ((i:Int) < (s.length:Int))=true:=decide_eq_true (by omega)
  have h0:(0:Int)<=(i:Int):=by omega
  have hbl:(b.toNat:Int) < 256:=by have:=b.toNat_lt; omega
  have hck:=aBL (s.take i)
  have hne:decide ((999979:Int)=0)=false:=by decide
  have hstep:ck (s.take (i + 1))=(41 * ck (s.take i) + b.toNat + 1) % 999979:=by
   have hi:=cQ hb
   rw [aF hi]
   have:s[i]=b:=by rw [List.getElem?_eq_getElem hi] at hb; injection hb
   unfold ck
   rw [bG,this]; rfl
  have htm:(41 * ck (s.take i) + b.toNat + 1).tmod 999979=ck (s.take (i + 1)):=by rw [hstep,aS (by omega)]
  have h99:(999979:Int)≠0:=by decide
  repeat' (first|(simp only [hd,h0,hb,aA,cK,htm,h99,ne_eq,not_false_eq_true,↓wA,↓wC,wB,bW,reduceIte,reduceCtorEq])|(refine cO (by decide) ?_)|(refine cM (by simp only [dX]; omega) ?_)|((first|apply cH|apply cI|apply cG)<;>intro h<;>try simp only [h]))
  all_goals exact ⟨i + 1,cV [] rfl ⟨⟨rfl,rfl⟩,⟨rfl,rfl⟩,⟨rfl,rfl⟩,⟨rfl,rfl⟩,trivial⟩,by omega,by omega⟩
 ·have hd:decide ((i:Int) < (s.length:Int))=false:=decide_eq_false (by omega)
  simp only [hd,↓wA,↓wC,wB,bW,reduceIte,reduceCtorEq]
  rw [aI (by omega)]
theorem yC (s:List UInt8) (hl:s.length<=maxLen):Fn prog 130 [.str s] (fun rs=>rs=[.int .i64 (ck s)]):=by
 rw [d5] at hl
 refine cW aQU [] ?_
 dsimp only [aQU,aTK,rF,cS,cE,cR,c8]
 try simp only [wQ]
 simp only [↓wA,↓wC,wB,bW,reduceIte,reduceCtorEq]
 refine eK (fun i:Nat=>⟨[(0,.d (.str s)),(3,.d (.int .i64 (ck (s.take i)))),(4,.d (.int .i64 i))],[]⟩)
  (fun i=>i<=s.length) (fun i=>s.length - i) 0 (cV [] rfl ⟨⟨rfl,rfl⟩,⟨rfl,rfl⟩,⟨rfl,rfl⟩,trivial⟩) (aT _) ?_
 rintro i hi
 by_cases hlt:i < s.length
 ·obtain ⟨b,hb⟩:=dW hlt
  have hd:decide ((i:Int) < (s.length:Int))=true:=decide_eq_true (by omega)
  have h0:(0:Int)<=(i:Int):=by omega
  have hbl:(b.toNat:Int) < 256:=by have:=b.toNat_lt; omega
  have hck:=aBL (s.take i)
  have hstep:ck (s.take (i + 1))=(41 * ck (s.take i) + b.toNat + 1) % 999979:=by
   have hi:=cQ hb
   rw [aF hi]
   have:s[i]=b:=by rw [List.getElem?_eq_getElem hi] at hb; injection hb
   unfold ck
   rw [bG,this]; rfl
  have htm:(41 * ck (s.take i) + b.toNat + 1).tmod 999979=ck (s.take (i + 1)):=by rw [hstep,aS (by omega)]
  have h99:(999979:Int)≠0:=by decide
  repeat' (first|(simp only [hd,h0,hb,aA,cK,htm,h99,ne_eq,not_false_eq_true,↓wA,↓wC,wB,bW,reduceIte,reduceCtorEq])|(refine cO (by decide) ?_)|(refine cM (by simp only [dX]; omega) ?_)|((first|apply cH|apply cI|apply cG)<;>intro h<;>try simp only [h]))
  all_goals exact ⟨i + 1,cV [] rfl ⟨⟨rfl,rfl⟩,⟨rfl,rfl⟩,⟨rfl,rfl⟩,trivial⟩,by omega,by omega⟩
 ·have hd:decide ((i:Int) < (s.length:Int))=false:=decide_eq_false (by omega)
  simp only [hd,↓wA,↓wC,wB,bW,reduceIte,reduceCtorEq]
  rw [aI (by omega)]
theorem nM (s:List UInt8):dX .i64 (ck s):=by
 have:=aBL s
 simp only [dX]; omega
theorem aVD (s:List UInt8):s ++ [35] ++ Lib.itoa (ck s)=iO s:=by simp [iO]
theorem aD3 (s:List UInt8) (hl:s.length<=4000):Fn prog 97 [.str s] (fun rs=>rs=[.str (iO s)]):=by
 have hm:s.length<=maxLen:=by rw [d5]; omega
 have hi:=eL (ck s) (nM s)
 refine cW aUc [] ?_
 dsimp only [aUc,m97,rF,cS,cE,cR,c8]
 try simp only [wQ]
 repeat' (first|(simp only [↓wA,↓wC,wB,bW,reduceIte,reduceCtorEq])|(refine cJ (yC s hm) rfl rfl ?_)|(refine cL (yC s hm) rfl rfl ?_)|(refine cJ (fI (ck s) (aBL s).1 (nM s)) rfl rfl ?_)|(refine cL (fI (ck s) (aBL s).1 (nM s)) rfl rfl ?_)|(refine cO (by (try simp only [aB,aH,aQ]); omega) ?_)|((first|apply cH|apply cI|apply cG)<;>intro h<;>try simp only [h]))
 all_goals simp [iO]
theorem xT (s:List UInt8) (hl:s.length<=3000) (hs:(35:UInt8) ∉ s):Fn prog 116 [.str s] (fun rs=>rs=[.str (iO s),.bool true]):=by
 have hm:s.length<=maxLen:=by rw [d5]; omega
 have hi:=eL (ck s) (nM s)
 have hd:decide ((s.length:Int) > 4000)=false:=decide_eq_false (by omega)
 have hd':decide ((4000:Int) < (s.length:Int))=false:=decide_eq_false (by omega)
 have hc:s.contains 35=false:=by
  cases h:s.contains 35 with
  | false=>rfl
  | true=>exact absurd (aE.1 h) hs
 have hl2:(iO s).length<=4000:=by
  simp only [iO,aB,aH]; omega
 have hd2:decide (((iO s).length:Int) > 4000)=false:=decide_eq_false (by omega)
 have hd2':decide ((4000:Int) < ((iO s).length:Int))=false:=decide_eq_false (by omega)
 have hd3:decide ((4000:Int) < ((s.length + ((Lib.itoa (ck s)).length + 1):Nat):Int))=false:=decide_eq_false (by omega)
 refine cW aAA [] ?_
 dsimp only [aAA,aLJ,rF,cS,cE,cR,c8]
 try simp only [wQ]
 repeat' (first|(simp only [hd,hc,hd3,↓wA,↓wC,wB,bW,reduceIte,reduceCtorEq])|(refine cJ (i7 s 35) rfl rfl ?_)|(refine cL (i7 s 35) rfl rfl ?_)|(refine cJ (jZ s hm) rfl rfl ?_)|(refine cL (jZ s hm) rfl rfl ?_)|(refine cJ (eZ (ck s) (nM s)) rfl rfl ?_)|(refine cL (eZ (ck s) (nM s)) rfl rfl ?_)|(refine cO (by (try simp only [aB,aH,aQ]); omega) ?_)|((first|apply cH|apply cI|apply cG)<;>intro h<;>try simp only [h]))
 all_goals first|rfl|(simp [iO])
theorem aWz (k:Int) (c r:List UInt8):Lib.itoa k ++ [32] ++ c ++ [64] ++ r=body k c r:=by simp [body]
theorem yE {k:Int} {c r:List UInt8} (hk:dX .i64 k) (h:fV c r=true):(body k c r).length<=400:=by
 have:=eL k hk
 obtain ⟨h1,h2,h3,_⟩:=kE h
 simp only [body,aB,aH]; omega
theorem nH {k:Int} {c r:List UInt8} (hk:dX .i64 k) (h:fV c r=true):(lD k c r).length<=430:=by
 have h1:=yE hk h
 have:=eL (ck (body k c r)) (nM _)
 simp only [lD,iO,aB,aH]; omega
theorem aB3 (k:Int) (c r:List UInt8) (h0:0<=k) (hk:dX .i64 k) (h:fV c r=true):Fn prog 61 [.int .i64 k,lZ c r] (fun rs=>rs=[.str (lD k c r ++ [10])]):=by
 have hi:=eL k hk
 obtain ⟨h1,h2,h3,_⟩:=kE h
 have hb:=yE hk h
 have hl:=nH hk h
 unfold lD at hl
 refine cW aUP [] ?_
 dsimp only [aUP,m61,rF,cS,cE,cR,c8]
 try simp only [wQ]
 simp only [lZ]
 repeat' (first|(simp only [↓wA,↓wC,wB,bW,bX,reduceIte,reduceCtorEq])|(refine cJ (fI k h0 hk) rfl rfl ?_)|(refine cL (fI k h0 hk) rfl rfl ?_)|(refine cJ (aD3 (body k c r) (by omega)) rfl rfl ?_)|(refine cL (aD3 (body k c r) (by omega)) rfl rfl ?_)|(refine cO (by (try simp only [aB,aH,aQ]); omega) ?_)|((first|apply cH|apply cI|apply cG)<;>intro h<;>try simp only [h]))
 all_goals rfl
def aHt (k:Int) (c r:List UInt8):List D:=if c6 k 0 59=true/\fV c r=true then [.str (lD k c r ++ [10]),.bool true] else [.str [],.bool false]
theorem aIl {k:Int} (h:c6 k 0 59=true):0<=k/\dX .i64 k:=by
 simp only [c6,aR,decide_eq_true_eq] at h
 simp only [dX]; omega
theorem aD7 (k:Int) (c r:List UInt8) (hc:c.length<=maxLen) (hr:r.length<=maxLen):Fn prog 75 [.int .i64 k,lZ c r] (fun rs=>rs=aHt k c r):=by
 have hg:=mJ c r hc hr
 refine cW aU8 [] ?_
 dsimp only [aU8,m75,rF,cS,cE,cR,c8]
 try simp only [wQ]
 cases h1:c6 k 0 59 with
 | false =>
  have hw:=eT k 0 59
  rw [h1] at hw
  simp only [lZ] at hg ⊢
  repeat' (first|(simp only [↓wA,↓wC,wB,bW,bX,reduceIte,reduceCtorEq])|(refine cJ hw rfl rfl ?_)|(refine cJ hg rfl rfl ?_)|((first|apply cH|apply cI|apply cG)<;>intro h<;>try simp only [h]))
  all_goals simp [aHt,h1]
 | true =>
  have hw:=eT k 0 59
  rw [h1] at hw
  cases h2:fV c r with
  | false =>
   rw [h2] at hg
   simp only [lZ] at hg ⊢
   repeat' (first|(simp only [↓wA,↓wC,wB,bW,bX,reduceIte,reduceCtorEq])|(refine cJ hw rfl rfl ?_)|(refine cJ hg rfl rfl ?_)|((first|apply cH|apply cI|apply cG)<;>intro h<;>try simp only [h]))
   all_goals simp [aHt,h1,h2]
  | true =>
   rw [h2] at hg
   obtain ⟨h0,hk⟩:=aIl h1
   have hi:=eL k hk
   obtain ⟨h3,h4,h5,_⟩:=kE h2
   have hb:=yE hk h2
   have hl:=nH hk h2
   unfold lD at hl
   have ha:=xT (body k c r) (by omega) (aEe h2)
   simp only [lZ] at hg ⊢
   repeat' (first|(simp only [↓wA,↓wC,wB,bW,bX,reduceIte,reduceCtorEq])|(refine cJ hw rfl rfl ?_)|(refine cJ hg rfl rfl ?_)|(refine cL (eZ k hk) rfl rfl ?_)|(refine cL ha rfl rfl ?_)|(refine cO (by (try simp only [aB,aH,aQ]); omega) ?_)|((first|apply cH|apply cI|apply cG)<;>intro h<;>try simp only [h]))
   all_goals simp [aHt,h1,h2,lD]
end Go.Pe.Tryz
namespace Go.Pe.Tryz
theorem index_one (x:UInt8):∀ s:List UInt8,(x∈s->Lib.index s [x]=((cX x s).length:Int))/\(x ∉ s->Lib.index s [x]=-1)
 | []=>⟨fun h=>(by cases h),fun _=>rfl⟩
 | b :: s=>by
  obtain ⟨ih1,ih2⟩:=index_one x s
  by_cases e:b=x
  ·subst e
   refine ⟨fun _=>?_,fun h=>absurd (List.mem_cons_self ..) h⟩
   have hp:([b]:List UInt8).isPrefixOf (b :: s)=true:=by simp [bP]
   rw [Lib.index,if_pos hp]
   simp [cX]
  ·have hp:([x]:List UInt8).isPrefixOf (b :: s)=false:=by
    simp only [bP,Bool.and_eq_false_iff,beq_eq_false_iff_ne]
    exact .inl fun h=>e h.symm
   have hb:(b != x)=true:=by simpa [bne_iff_ne] using e
   refine ⟨fun h=>?_,fun h=>?_⟩
   ·have hm:x∈s:=by
     rcases aK.1 h with h|h
     ·exact absurd h.symm e
     ·exact h
    have h1:((Lib.index s [x]) == -1)=false:=by rw [ih1 hm,beq_eq_false_iff_ne]; omega
    rw [Lib.index,hp,h1,ih1 hm]
    simp [cX,hb]
   ·have hm:x ∉ s:=fun hm=>h (List.mem_cons_of_mem _ hm)
    have h1:((Lib.index s [x]) == -1)=true:=by rw [ih2 hm]; rfl
    rw [Lib.index,hp,h1]
    rfl
theorem aNU (x:UInt8) (s:List UInt8):Lib.cut s [x]=(cX x s,after x s,s.contains x):=by
 obtain ⟨h1,h2⟩:=index_one x s
 unfold Lib.cut
 by_cases h:x∈s
 ·rw [h1 h,if_pos (by omega)]
  refine Prod.ext ?_ (Prod.ext ?_ ?_)
  ·show s.take ((cX x s).length:Int).toNat=cX x s
   rw [aA,<-aFh]
  ·show s.drop (((cX x s).length:Int).toNat + [x].length)=after x s
   rw [aA,aC,<-wX h]
  ·exact (aE.2 h).symm
 ·rw [h2 h,if_neg (by omega)]
  refine Prod.ext (nA h).symm (Prod.ext (aBH h).symm ?_)
  cases hc:s.contains x with
  | false=>rfl
  | true=>exact absurd (aE.1 hc) h
def yZ (x:UInt8) (s:List UInt8):Nat->List (List UInt8)×Nat
 | 0=>([],0)
 | i + 1=>match s[i]? with
  | some c=>if c=x then ((yZ x s i).1 ++ [(s.take i).drop (yZ x s i).2],i + 1) else yZ x s i
  | none=>yZ x s i
def parts (x:UInt8) (s:List UInt8):List (List UInt8):=(yZ x s s.length).1 ++ [s.drop (yZ x s s.length).2]
theorem zL {x c:UInt8} {s:List UInt8} {i:Nat} (h:s[i]?=some c):yZ x s (i + 1)=if c=x then ((yZ x s i).1 ++ [(s.take i).drop (yZ x s i).2],i + 1) else yZ x s i:=by
 simp only [yZ,h]
theorem aEA (x:UInt8) (s:List UInt8):∀ i,(yZ x s i).2<=i/\(yZ x s i).1.length<=i
 | 0=>by simp [yZ]
 | i + 1=>by
  have ih:=aEA x s i
  simp only [yZ]
  split
  ·split
   ·simp; omega
   ·omega
  ·omega
theorem yT (x:UInt8) (s:List UInt8):∀ i,i<=s.length->((yZ x s i).1=[]/\(yZ x s i).2=0/\x ∉ s.take i)\/((yZ x s i).1[0]?=some (cX x s)/\x∈s)
 | 0,_=>.inl ⟨rfl,rfl,by simp⟩
 | i + 1,h=>by
  have hi:i < s.length:=h
  have hc:s[i]?=some s[i]:=List.getElem?_eq_getElem hi
  rw [zL hc]
  have hsp:s=s.take i ++ s[i] :: s.drop (i + 1):=by
   rw [<- aW hi,List.take_append_drop]
  have htk:s.take (i + 1)=s.take i ++ [s[i]]:=by rw [aF hi]
  rcases yT x s i (by omega) with ⟨h1,h2,h3⟩|⟨h1,h2⟩
  ·split
   ·rename_i e
    right
    refine ⟨?_,e ▸ List.getElem_mem hi⟩
    rw [h1,h2]
    have:cX x s=s.take i:=by
     have h4:=oL (t:=s.drop (i + 1)) h3
     rw [<- e,<-hsp] at h4
     rw [<- e]; exact h4
    simp [this]
   ·rename_i e
    left
    refine ⟨h1,h2,?_⟩
    rw [htk,aV,aP]
    rintro (h|h)
    ·exact h3 h
    ·exact e h.symm
  ·right
   split
   ·refine ⟨?_,h2⟩
    rw [List.getElem?_append_left (cQ h1)]; exact h1
   ·exact ⟨h1,h2⟩
theorem rZ (x:UInt8) (s:List UInt8):(parts x s)[0]?=some (cX x s):=by
 unfold parts
 rcases yT x s s.length (bU _) with ⟨h1,h2,h3⟩|⟨h1,h2⟩
 ·rw [aY] at h3
  rw [h1,h2,nA h3]; rfl
 ·rw [List.getElem?_append_left (cQ h1)]; exact h1
theorem aD0 (x:UInt8) (s:List UInt8):(parts x s).length < 2↔x ∉ s:=by
 unfold parts
 rcases yT x s s.length (bU _) with ⟨h1,h2,h3⟩|⟨h1,h2⟩
 ·rw [aY] at h3
  rw [h1]
  simp [h3]
 ·have:=cQ h1
  simp only [aB,aC]
  constructor
  ·intro h; omega
  ·intro h; exact absurd h2 h
theorem aDE (x:UInt8) (s:List UInt8):(parts x s).length<=s.length + 1:=by
 unfold parts
 have:=(aEA x s s.length).2
 simp; omega
theorem aCm {k:Int} {c r:List UInt8} (h:fV c r=true):iO (cX 35 (lD k c r))=lD k c r/\cX 35 (lD k c r)=body k c r/\after 32 (body k c r)=c ++ 64 :: r/\cX 64 (c ++ 64 :: r)=c/\after 64 (c ++ 64 :: r)=r:=by
 have h64:=(kE h).2.2.2.2.2
 have h32:(32:UInt8) ∉ Lib.itoa k:=aGD k 32 (by decide) (by decide)
 refine ⟨by rw [tZ h]; rfl,tZ h,?_,oL h64,vA h64⟩
 unfold body
 exact vA h32
theorem aOq {k:Int} {L:List UInt8} (h:rd k L=none) (c r:List UInt8) (hok:fV c r=true):¬ lD k c r=L:=fun e=>by
 rw [zE.2 ⟨hok,e⟩] at h
 cases h
theorem wZ {n:Nat} {k:Int} {s:List UInt8} {e:List UInt8×List UInt8} (jT:(10:UInt8)∈s) (h:rd k (cX 10 s)=some e):f5 (n + 1) k s=(e :: (f5 n (k + 1) (after 10 s)).1,(cX 10 s).length + 1 + (f5 n (k + 1) (after 10 s)).2):=by
 simp only [f5,jT,if_true,h]
theorem w9 {n:Nat} {k:Int} {s:List UInt8} (h:(10:UInt8) ∉ s):f5 n k s=([],0):=by
 cases n with
 | zero=>rfl
 | succ n=>simp only [f5,h,if_false]
theorem z1 {n:Nat} {k:Int} {s:List UInt8} (h:rd k (cX 10 s)=none):f5 n k s=([],0):=by
 cases n with
 | zero=>rfl
 | succ n=>simp only [f5,h]; split<;>rfl
theorem aF4:∀ (n:Nat) (k:Int) (s:List UInt8),∀ e∈(f5 n k s).1,fV e.1 e.2=true
 | 0,_,_,e,h=>by simp [f5] at h
 | n + 1,k,s,e,h=>by
  by_cases jT:(10:UInt8)∈s
  ·cases hr:rd k (cX 10 s) with
   | none=>rw [z1 hr] at h; cases h
   | some d =>
    rw [wZ jT hr] at h
    rcases aK.1 h with h|h
    ·rw [h]; exact (zE.1 hr).1
    ·exact aF4 n _ _ e h
  ·rw [w9 jT] at h; cases h
theorem aAr {B:Nat} (hB:∀ (k:Int) (c r:List UInt8),0<=k->k<=60->fV c r=true->(lD k c r).length<=B):∀ (n:Nat) (k:Int) (s:List UInt8),0<=k->k + n<=60->(f5 n k s).2<=(B + 1) * n
 | 0,_,_,_,_=>by simp [f5]
 | n + 1,k,s,h0,h1=>by
  by_cases jT:(10:UInt8)∈s
  ·cases hr:rd k (cX 10 s) with
   | none=>rw [z1 hr]; simp
   | some d =>
    rw [wZ jT hr]
    obtain ⟨hok,hl⟩:=zE.1 hr
    have:=hB k d.1 d.2 h0 (by omega) hok
    rw [hl] at this
    have ih:=aAr hB n (k + 1) (after 10 s) (by omega) (by omega)
    simp only [Nat.mul_succ]
    omega
  ·rw [w9 jT]; simp
def vfy (s:List UInt8):Bool:=decide ((cX 35 s).length<=4000/\(iO (cX 35 s)).length<=4000/\iO (cX 35 s)=s)
def aG2 (L:List UInt8):List UInt8:=after 32 (if vfy L=true then cX 35 L else [])
def v7 (L:List UInt8):List UInt8×List UInt8:=(cX 64 (aG2 L),after 64 (aG2 L))
theorem aGz (x:UInt8) (s:List UInt8):(after x s).length<=s.length:=by
 unfold after
 have:=(a8 (p:=(· != x)) (l:=s)).length_le
 simp only [aN]; omega
theorem aS5 (L:List UInt8):(aG2 L).length<=L.length/\(v7 L).1.length<=L.length/\(v7 L).2.length<=L.length:=by
 have h1:(aG2 L).length<=L.length:=by
  unfold aG2
  split
  ·exact bD (aGz 32 _) (lL 35 L)
  ·simp [after]
 exact ⟨h1,bD (lL 64 _) h1,bD (aGz 64 _) h1⟩
theorem aTh {k:Int} {L:List UInt8} (hb:∀ c r:List UInt8,fV c r=true->(body k c r).length<=4000/\(lD k c r).length<=4000) :
  rd k L=if fV (v7 L).1 (v7 L).2=true/\lD k (v7 L).1 (v7 L).2=L then some (v7 L) else none:=by
 cases h:rd k L with
 | none =>
  rw [if_neg]
  rintro ⟨h1,h2⟩
  exact aOq h _ _ h1 h2
 | some e =>
  obtain ⟨c,r⟩:=e
  obtain ⟨h1,h2⟩:=zE.1 h
  obtain ⟨p1,p2,p3,p4,p5⟩:=aCm (k:=k) h1
  rw [h2] at p1 p2
  obtain ⟨b1,b2⟩:=hb c r h1
  have hv:vfy L=true:=decide_eq_true ⟨by rw [p2]; exact b1,by rw [p1,<-h2]; exact b2,p1⟩
  have hn:v7 L=(c,r):=by
   unfold v7 aG2
   rw [if_pos hv,p2,p3,p4,p5]
  rw [hn,if_pos ⟨h1,h2⟩]
def l5 (k:Int) (L:List UInt8):List UInt8:=(cX 35 L).drop ((Lib.itoa k).length + 1)
def rdv (k:Int) (L:List UInt8):(List UInt8×List UInt8)×Bool :=
 if (cX 35 L).length < (Lib.itoa k).length + 1\/(cX 35 L).take ((Lib.itoa k).length + 1)≠Lib.itoa k ++ [32] then (([],[]),false)
 else if (64:UInt8) ∉ l5 k L then (([],[]),false)
 else ((cX 64 (l5 k L),after 64 (l5 k L)),fV (cX 64 (l5 k L)) (after 64 (l5 k L)) && decide (lD k (cX 64 (l5 k L)) (after 64 (l5 k L))=L))
theorem aSM (k:Int) (L:List UInt8):rd k L=if (rdv k L).2=true then some (rdv k L).1 else none:=by
 by_cases h1:(cX 35 L).length < (Lib.itoa k).length + 1\/(cX 35 L).take ((Lib.itoa k).length + 1)≠Lib.itoa k ++ [32]
 ·unfold rdv
  rw [if_pos h1]
  cases h:rd k L with
  | none=>rfl
  | some e =>
   obtain ⟨c,r⟩:=e
   obtain ⟨h2,h3⟩:=zE.1 h
   have hp:=(aCm (k:=k) h2).2.1
   rw [h3] at hp
   exfalso
   rw [hp] at h1
   rcases h1 with h1|h1
   ·simp [body] at h1
   ·apply h1
    unfold body
    rw [List.take_append,aI (by omega),show (Lib.itoa k).length + 1 - (Lib.itoa k).length=1 by omega]; rfl
 ·by_cases h4:(64:UInt8) ∉ l5 k L
  ·unfold rdv
   rw [if_neg h1,if_pos h4]
   cases h:rd k L with
   | none=>rfl
   | some e =>
    obtain ⟨c,r⟩:=e
    obtain ⟨h2,h3⟩:=zE.1 h
    have hp:=(aCm (k:=k) h2).2.1
    rw [h3] at hp
    exfalso
    apply h4
    unfold l5
    rw [hp,aD8]
    simp
  ·unfold rdv
   rw [if_neg h1,if_neg h4]
   unfold rd
   show (if fV (cX 64 (l5 k L)) (after 64 (l5 k L))=true/\lD k (cX 64 (l5 k L)) (after 64 (l5 k L))=L then _ else _)=_
   by_cases h5:fV (cX 64 (l5 k L)) (after 64 (l5 k L))=true
   ·by_cases h6:lD k (cX 64 (l5 k L)) (after 64 (l5 k L))=L
    ·rw [if_pos ⟨h5,h6⟩]; simp only [h5,h6,decide_true,bR,if_true]; rfl
    ·rw [if_neg (fun h=>h6 h.2)]; simp [h6]
   ·rw [if_neg (fun h=>h5 h.1)]; simp [h5]
structure Reads (s:List UInt8) (p:List (List UInt8×List UInt8)×Nat):Prop where
 len:p.1.length<=60
 pos:p.2<=s.length
 all:f5 60 0 s=(p.1 ++ (f5 (60 - p.1.length) p.1.length (s.drop p.2)).1,p.2 + (f5 (60 - p.1.length) p.1.length (s.drop p.2)).2)
theorem aYh (s:List UInt8):Reads s ([],0):=⟨by simp,by simp,by simp⟩
theorem Reads.stop10 {s p} (h:Reads s p) (jT:(10:UInt8) ∉ s.drop p.2):f5 60 0 s=p:=by
 rw [h.all,w9 jT]; simp
theorem Reads.stopRd {s p} (h:Reads s p) (hr:rd (p.1.length:Int) (cX 10 (s.drop p.2))=none):f5 60 0 s=p:=by
 rw [h.all,z1 hr]; simp
theorem Reads.stopLen {s p} (h:Reads s p) (hr:¬ p.1.length < 60):f5 60 0 s=p:=by
 rw [h.all,show 60 - p.1.length=0 by have:=h.len; omega]; simp [f5]
theorem Reads.stopEnd {s p} (h:Reads s p) (hr:¬ p.2 < s.length):f5 60 0 s=p:=by
 refine h.stop10 ?_
 rw [List.drop_of_length_le (by omega)]; simp
theorem Reads.next {s p e} (h:Reads s p) (hl:p.1.length < 60) (jT:(10:UInt8)∈s.drop p.2) (hr:rd (p.1.length:Int) (cX 10 (s.drop p.2))=some e) :
  Reads s (p.1 ++ [e],p.2 + ((cX 10 (s.drop p.2)).length + 1)):=by
 have hal:=rD jT
 rw [aN] at hal
 have hp:=h.pos
 refine ⟨by simp; omega,by show p.2 + _<=_; omega,?_⟩
 have hn:60 - p.1.length=(60 - (p.1.length + 1)) + 1:=by omega
 have hd:s.drop (p.2 + ((cX 10 (s.drop p.2)).length + 1))=after 10 (s.drop p.2):=by rw [wX jT,bA]
 rw [h.all,hn,wZ jT hr]
 simp only [aB,aC,hd]
 refine Prod.ext ?_ ?_
 ·simp
 ·simp; omega
end Go.Pe.Tryz
namespace Go.Pe.Tryz
open Go.Proofs.Tryz Go.Sort
theorem aET (s:List UInt8) (x:UInt8) (hl:s.length<=4000000000):Fn prog 120 [.str s,.str [x]] (fun rs=>rs=[.str (cX x s),.str (after x s),.bool (s.contains x)]) :=
 aHV rfl rfl fun w hF=>by
  obtain ⟨m,hm⟩:=aRd hF
  refine (Go.Proofs.Tryz.strings_Cut ⟨s.toArray⟩ ⟨#[x]⟩ m w (by show s.toArray.size < _; simp; omega) hm).mono ?_
  rintro e w' ⟨rfl,n,rfl⟩
  refine ⟨?_,kN.drewN n⟩
  have hc:Lib.cut s [x]=(cX x s,after x s,s.contains x):=aNU x s
  simp only [hc]
  rfl
theorem aHr (L:List (List UInt8)) (s:List UInt8):(dl D.str L).app (D.cons (.str s) .nil)=dl D.str (L ++ [s]):=hZ (f:=D.str) L s
theorem aKG (L:List (List UInt8)):(dl D.str L).noOwn=true:=oR (fun _=>rfl) L
theorem u5 (L:List (List UInt8)):(dl D.str L).unown=dl D.str L:=rG (fun _=>rfl) L
theorem sP (s:List UInt8) (x:UInt8) (hl:s.length<=1000000000):Fn prog 44 [.str s,.int .u8 (x.toNat:Int)] (fun rs=>rs=[.sl true 1 (dl D.str (parts x s))]):=by
 refine cW aU1 [] ?_
 dsimp only [aU1,m44,rF,cS,cE,cR,c8]
 try simp only [wQ]
 repeat' (first|(simp only [cK,↓wA,↓wC,wB,bW,bX,reduceIte,reduceCtorEq])|((first|apply cH|apply cI|apply cG)<;>intro h<;>try simp only [h]))
 refine dV s.length (fun i:Nat=>⟨[(0,.d (.str s)),(1,.d (.int .u8 (x.toNat:Int))),(5,.own 0),(6,.d (.int .i64 (yZ x s i).2)),(7,.d (.int .i64 i))],[.val (.sl true 1 (dl D.str (yZ x s i).1))]⟩) (fun _=>True) (cV _ rfl ⟨⟨rfl,rfl⟩,⟨rfl,rfl⟩,⟨rfl,rfl⟩,⟨rfl,rfl⟩,⟨rfl,rfl⟩,trivial⟩) trivial ?_ ?_
 ·intro i hi _ hd h0
  obtain ⟨b,hb⟩:=dW hi
  have hbc:decide ((b.toNat:Int)=(x.toNat:Int))=decide (b=x):=by
   apply decide_eq_decide.2
   constructor
   ·intro h; exact bK.1 (by omega)
   ·intro h; rw [h]
  have hbd:=aEA x s i
  have hup:=zL (x:=x) hb
  by_cases hc:b=x
  ·rw [if_pos hc] at hup
   repeat' (first|(simp only [hd,h0,hb,aA,cK,hc,↓wA,↓wC,wB,bW,reduceIte,reduceCtorEq,aG])|(refine cO (fun h=>by cases h) ?_)|(with_reducible refine cO ?_ ?_; focus ((try simp only [cP]); omega))|(refine cM (by simp only [dX]; omega) ?_)|((first|apply cH|apply cI|apply cG)<;>intro h<;>try simp only [h]))
   all_goals (refine ⟨i + 1,?_,by omega,by omega⟩; rw [hup]; (try simp only [aHr]); exact (cV _ rfl ⟨⟨rfl,rfl⟩,⟨rfl,rfl⟩,⟨rfl,rfl⟩,⟨rfl,rfl⟩,⟨rfl,rfl⟩,trivial⟩))
  ·rw [if_neg hc] at hup
   repeat' (first|(simp only [hd,h0,hb,aA,cK,hbc,hc,↓wA,↓wC,wB,bW,reduceIte,reduceCtorEq])|(refine cO (fun h=>by cases h) ?_)|(with_reducible refine cO ?_ ?_; focus ((try simp only [cP]); omega))|(refine cM (by simp only [dX]; omega) ?_)|((first|apply cH|apply cI|apply cG)<;>intro h<;>try simp only [h]))
   all_goals (refine ⟨i + 1,?_,by omega,by omega⟩; rw [hup]; (try simp only [aHr]); exact (cV _ rfl ⟨⟨rfl,rfl⟩,⟨rfl,rfl⟩,⟨rfl,rfl⟩,⟨rfl,rfl⟩,⟨rfl,rfl⟩,trivial⟩))
 ·intro _ hd
  have hbd:=aEA x s s.length
  repeat' (first|(simp only [hd,cK,aA,↓wA,↓wC,wB,bW,reduceIte,reduceCtorEq])|(refine cO (fun h=>by cases h) ?_)|(with_reducible refine cO ?_ ?_; focus ((try simp only [cP]); omega))|((first|apply cH|apply cI|apply cG)<;>intro h<;>try simp only [h]))
  all_goals (simp only [aHr]; rfl)
theorem aM6 (s:List UInt8):(iO s).length=s.length + 1 + (Lib.itoa (ck s)).length:=by simp [iO]; omega
theorem aDe (s:List UInt8) (hl:s.length<=1000000000) (hs:(35:UInt8) ∉ s):Fn prog 116 [.str s] (fun rs=>rs=if s.length<=4000/\(iO s).length<=4000 then [.str (iO s),.bool true] else [.str [],.bool false]):=by
 have hm:s.length<=maxLen:=by rw [d5]; omega
 have hi:=eL (ck s) (nM s)
 have hsl:=aM6 s
 have hc:s.contains 35=false:=by
  cases h:s.contains 35 with
  | false=>rfl
  | true=>exact absurd (aE.1 h) hs
 by_cases h1:s.length<=4000
 ·have hd':decide ((4000:Int) < (s.length:Int))=false:=decide_eq_false (by omega)
  by_cases h2:(iO s).length<=4000
  ·rw [if_pos ⟨h1,h2⟩]
   have hd2':decide ((4000:Int) < ((iO s).length:Int))=false:=decide_eq_false (by omega)
   have hd3:decide ((4000:Int) < ((s.length + ((Lib.itoa (ck s)).length + 1):Nat):Int))=false:=decide_eq_false (by omega)
   refine cW aAA [] ?_
   dsimp only [aAA,aLJ,rF,cS,cE,cR,c8]
   try simp only [wQ]
   repeat' (first|(simp only [hd',hc,hd3,↓wA,↓wC,wB,bW,reduceIte,reduceCtorEq])|(refine cJ (i7 s 35) rfl rfl ?_)|(refine cL (i7 s 35) rfl rfl ?_)|(refine cJ (jZ s hm) rfl rfl ?_)|(refine cL (jZ s hm) rfl rfl ?_)|(refine cJ (eZ (ck s) (nM s)) rfl rfl ?_)|(refine cL (eZ (ck s) (nM s)) rfl rfl ?_)|(refine cO (by (try simp only [aB,aH,aQ]); omega) ?_)|((first|apply cH|apply cI|apply cG)<;>intro h<;>try simp only [h]))
   all_goals first|rfl|(simp [iO])
  ·rw [if_neg (fun h=>h2 h.2)]
   have hd2':decide ((4000:Int) < ((iO s).length:Int))=true:=decide_eq_true (by omega)
   have hd3:decide ((4000:Int) < ((s.length + ((Lib.itoa (ck s)).length + 1):Nat):Int))=true:=decide_eq_true (by omega)
   refine cW aAA [] ?_
   dsimp only [aAA,aLJ,rF,cS,cE,cR,c8]
   try simp only [wQ]
   repeat' (first|(simp only [hd',hc,hd3,↓wA,↓wC,wB,bW,reduceIte,reduceCtorEq])|(refine cJ (i7 s 35) rfl rfl ?_)|(refine cL (i7 s 35) rfl rfl ?_)|(refine cJ (jZ s hm) rfl rfl ?_)|(refine cL (jZ s hm) rfl rfl ?_)|(refine cJ (eZ (ck s) (nM s)) rfl rfl ?_)|(refine cL (eZ (ck s) (nM s)) rfl rfl ?_)|(refine cO (by (try simp only [aB,aH,aQ]); omega) ?_)|((first|apply cH|apply cI|apply cG)<;>intro h<;>try simp only [h]))
   all_goals first|rfl|(simp [iO])
 ·rw [if_neg (fun h=>h1 h.1)]
  have hd':decide ((4000:Int) < (s.length:Int))=true:=decide_eq_true (by omega)
  refine cW aAA [] ?_
  dsimp only [aAA,aLJ,rF,cS,cE,cR,c8]
  try simp only [wQ]
  repeat' (first|(simp only [hd',↓wA,↓wC,wB,bW,reduceIte,reduceCtorEq])|((first|apply cH|apply cI|apply cG)<;>intro h<;>try simp only [h]))
  all_goals rfl
theorem aKk (s:List UInt8) (hl:s.length<=1000000000):Fn prog 121 [.str s] (fun rs=>rs=if vfy s=true then [.str (cX 35 s),.bool true] else [.str [],.bool false]):=by
 have hb:=lL 35 s
 have hC:=aET s 35 (by omega)
 have hA:=aDe (cX 35 s) (by omega) (aCE 35 s)
 by_cases h1:(cX 35 s).length<=4000/\(iO (cX 35 s)).length<=4000
 ·rw [if_pos h1] at hA
  by_cases h2:iO (cX 35 s)=s
  ·have hv:vfy s=true:=decide_eq_true ⟨h1.1,h1.2,h2⟩
   have hd:decide (iO (cX 35 s)=s)=true:=decide_eq_true h2
   rw [if_pos hv]
   refine cW aDW [] ?_
   dsimp only [aDW,aP3,rF,cS,cE,cR,c8]
   try simp only [wQ]
   repeat' (first|(simp only [hd,↓wA,↓wC,wB,bW,bX,reduceIte,reduceCtorEq])|(refine cJ (hC) rfl rfl ?_)|(refine cL (hC) rfl rfl ?_)|(refine cJ (hA) rfl rfl ?_)|(refine cL (hA) rfl rfl ?_)|((first|apply cH|apply cI|apply cG)<;>intro h<;>try simp only [h]))
   all_goals trace_state
  ·have hv:¬ vfy s=true:=fun h=>h2 (of_decide_eq_true h).2.2
   have hd:decide (iO (cX 35 s)=s)=false:=decide_eq_false h2
   rw [if_neg hv]
   refine cW aDW [] ?_
   dsimp only [aDW,aP3,rF,cS,cE,cR,c8]
   try simp only [wQ]
   repeat' (first|(simp only [hd,↓wA,↓wC,wB,bW,bX,reduceIte,reduceCtorEq])|(refine cJ (hC) rfl rfl ?_)|(refine cL (hC) rfl rfl ?_)|(refine cJ (hA) rfl rfl ?_)|(refine cL (hA) rfl rfl ?_)|((first|apply cH|apply cI|apply cG)<;>intro h<;>try simp only [h]))
   all_goals trace_state
 ·rw [if_neg h1] at hA
  have hv:¬ vfy s=true:=fun h=>h1 ⟨(of_decide_eq_true h).1,(of_decide_eq_true h).2.1⟩
  rw [if_neg hv]
  refine cW aDW [] ?_
  dsimp only [aDW,aP3,rF,cS,cE,cR,c8]
  try simp only [wQ]
  repeat' (first|(simp only [↓wA,↓wC,wB,bW,bX,reduceIte,reduceCtorEq])|(refine cJ (hC) rfl rfl ?_)|(refine cL (hC) rfl rfl ?_)|(refine cJ (hA) rfl rfl ?_)|(refine cL (hA) rfl rfl ?_)|((first|apply cH|apply cI|apply cG)<;>intro h<;>try simp only [h]))
  all_goals trace_state
def jH (e:List UInt8×List UInt8):D:=.st (.cons (.str e.1) (.cons (.str e.2) .nil))
theorem rT (L:List (List UInt8×List UInt8)):(dl jH L).noOwn=true:=oR (fun _=>rfl) L
theorem aMM (L:List (List UInt8×List UInt8)) (e:List UInt8×List UInt8):(dl jH L).app (D.cons (.st (.cons (.str e.1) (.cons (.str e.2) .nil))) .nil)=dl jH (L ++ [e]):=hZ (f:=jH) L e
theorem u3 {n:Nat} (h:n<=60):dX .i64 (n:Int):=by simp only [dX]; omega
theorem aO9 {n:Nat} (hn:n<=60):∀ c r:List UInt8,fV c r=true->(body n c r).length<=4000/\(lD n c r).length<=4000:=fun c r h=>by
 have h1:=yE (u3 hn) h
 have h2:=nH (u3 hn) h
 omega
def rrS (s:List UInt8) (p:List (List UInt8×List UInt8)×Nat):St:=⟨[(0,.d (.str s)),(4,.own 0),(5,.d (.int .i64 p.2))],[.val (.sl true 2 (dl jH p.1))]⟩
theorem tV (s:List UInt8) (hl:s.length<=100000000):Fn prog 82 [.str s] (fun rs=>rs=[.sl true 2 (dl jH (f5 60 0 s).1),.int .i64 ((f5 60 0 s).2:Nat)]):=by
 refine cW aVX [] ?_
 dsimp only [aVX,m82,rF,cS,cE,cR,c8]
 try simp only [wQ]
 repeat' (first|(simp only [cK,↓wA,↓wC,wB,cU,cT,bW,bX,bY,reduceIte,reduceCtorEq,aG,bZ,wU])|((first|apply cH|apply cI|apply cG)<;>intro h<;>try simp only [h]))
 refine aCH [(4,2)] (rrS s) (Reads s) (fun p=>60 - p.1.length) ([],0) ⟨rfl,trivial⟩ ?_ (aYh s) ?_
 ·exact (cV _ rfl ⟨⟨rfl,rfl⟩,⟨rfl,rfl⟩,⟨rfl,rfl⟩,trivial⟩)
 intro p hp
 have hpl:=hp.pos
 have h60:=hp.len
 have hE:=qK 60 0 s
 unfold rrS
 by_cases hlt:p.1.length < 60
 ·have hd:decide ((p.1.length:Int) < 60)=true:=decide_eq_true (by omega)
  have hdr:(s.drop p.2).length<=100000000:=by rw [aN]; omega
  have hC1:=aET (s.drop p.2) 10 (by omega)
  by_cases jT:(10:UInt8)∈s.drop p.2
  ·have hc10:(s.drop p.2).contains 10=true:=aE.2 jT
   rw [hc10] at hC1
   have hbl:=lL 10 (s.drop p.2)
   have hV:=aKk (cX 10 (s.drop p.2)) (by omega)
   have hal:=rD jT
   have hnl:=aS5 (cX 10 (s.drop p.2))
   have hC2:=aET (if vfy (cX 10 (s.drop p.2))=true then cX 35 (cX 10 (s.drop p.2)) else []) 32 (by
    split
    ·have:=lL 35 (cX 10 (s.drop p.2)); omega
    ·simp)
   have hC3:=aET (aG2 (cX 10 (s.drop p.2))) 64 (by omega)
   have hEn:=aD7 (p.1.length:Int) (v7 (cX 10 (s.drop p.2))).1 (v7 (cX 10 (s.drop p.2))).2 (by rw [d5]; omega) (by rw [d5]; omega)
   have hV':Fn prog 121 [.str (cX 10 (s.drop p.2))] (fun rs=>rs=[.str (if vfy (cX 10 (s.drop p.2))=true then cX 35 (cX 10 (s.drop p.2)) else []),.bool (vfy (cX 10 (s.drop p.2)))]):=by
    cases hv:vfy (cX 10 (s.drop p.2))<;>rw [hv] at hV<;>simpa using hV
   have hw:c6 (p.1.length:Int) 0 59=true:=by simp [c6]; omega
   have hrd:=aTh (k:=(p.1.length:Int)) (L:=cX 10 (s.drop p.2)) (aO9 (by omega))
   change Fn prog _ _ (fun rs=>rs=[_,.str (aG2 (cX 10 (s.drop p.2))),_]) at hC2
   change Fn prog _ _ (fun rs=>rs=[.str (v7 (cX 10 (s.drop p.2))).1,.str (v7 (cX 10 (s.drop p.2))).2,_]) at hC3
   have hn:jH (v7 (cX 10 (s.drop p.2)))=lZ (v7 (cX 10 (s.drop p.2))).1 (v7 (cX 10 (s.drop p.2))).2:=rfl
   by_cases hok:fV (v7 (cX 10 (s.drop p.2))).1 (v7 (cX 10 (s.drop p.2))).2=true
   ·have hEq:aHt (p.1.length:Int) (v7 (cX 10 (s.drop p.2))).1 (v7 (cX 10 (s.drop p.2))).2=[.str (lD (p.1.length:Int) (v7 (cX 10 (s.drop p.2))).1 (v7 (cX 10 (s.drop p.2))).2 ++ [10]),.bool true]:=if_pos ⟨hw,hok⟩
    rw [hEq] at hEn
    have hll:=nH (u3 h60) hok
    by_cases hln:lD (p.1.length:Int) (v7 (cX 10 (s.drop p.2))).1 (v7 (cX 10 (s.drop p.2))).2=cX 10 (s.drop p.2)
    ·rw [if_pos ⟨hok,hln⟩] at hrd
     have hnx:=hp.next hlt jT hrd
     rw [hln] at hEn
     generalize v7 (cX 10 (s.drop p.2))=e at *
     generalize cX 10 (s.drop p.2)=L at *
     repeat' (first|(simp only [hd,cP,hrd,cK,aA,decide_true,↓wA,↓wC,wB,cU,cT,bW,bX,bY,reduceIte,reduceCtorEq,aG,bZ,wU])|(refine cJ (hC1) rfl rfl ?_)|(refine cL (hC1) rfl rfl ?_)|(refine cJ (hV') rfl rfl ?_)|(refine cL (hV') rfl rfl ?_)|(refine cJ (hC2) rfl rfl ?_)|(refine cL (hC2) rfl rfl ?_)|(refine cJ (hC3) rfl rfl ?_)|(refine cL (hC3) rfl rfl ?_)|(refine cJ (hEn) rfl rfl ?_)|(refine cL (hEn) rfl rfl ?_)|(with_reducible refine cO ?_ ?_; focus omega)|(with_reducible refine cO ?_ ?_; focus (simp; done))|(with_reducible refine cO ?_ ?_; focus (simp only [aB,aC]; omega))|(with_reducible refine cM ?_ ?_; focus (simp only [dX]; omega))|((first|apply cH|apply cI|apply cG)<;>intro h<;>try simp only [h]))
     all_goals
      refine ⟨(p.1 ++ [e],p.2 + (L.length + 1)),?_,hnx,by simp only [aB,aC]; omega⟩
      rw [aMM]
      exact (cV _ rfl ⟨⟨rfl,rfl⟩,⟨rfl,rfl⟩,⟨rfl,rfl⟩,trivial⟩)
    ·rw [if_neg (fun h=>hln h.2)] at hrd
     have hst:=hp.stopRd hrd
     have hne:decide (lD (p.1.length:Int) (v7 (cX 10 (s.drop p.2))).1 (v7 (cX 10 (s.drop p.2))).2 ++ [10]=cX 10 (s.drop p.2) ++ [10])=false:=decide_eq_false fun h=>hln (a6 h)
     generalize v7 (cX 10 (s.drop p.2))=e at *
     generalize cX 10 (s.drop p.2)=L at *
     repeat' (first|(simp only [hd,cP,hrd,cK,aA,decide_true,hne,↓wA,↓wC,wB,cU,cT,bW,bX,bY,reduceIte,reduceCtorEq,aG,bZ,wU])|(refine cJ (hC1) rfl rfl ?_)|(refine cL (hC1) rfl rfl ?_)|(refine cJ (hV') rfl rfl ?_)|(refine cL (hV') rfl rfl ?_)|(refine cJ (hC2) rfl rfl ?_)|(refine cL (hC2) rfl rfl ?_)|(refine cJ (hC3) rfl rfl ?_)|(refine cL (hC3) rfl rfl ?_)|(refine cJ (hEn) rfl rfl ?_)|(refine cL (hEn) rfl rfl ?_)|(with_reducible refine cO ?_ ?_; focus omega)|(with_reducible refine cO ?_ ?_; focus (simp; done))|(with_reducible refine cO ?_ ?_; focus (simp only [aB,aC]; omega))|(with_reducible refine cM ?_ ?_; focus (simp only [dX]; omega))|((first|apply cH|apply cI|apply cG)<;>intro h<;>try simp only [h]))
     all_goals (rw [hst])
   ·rw [if_neg (fun h=>hok h.1)] at hrd
    have hst:=hp.stopRd hrd
    have hEq:aHt (p.1.length:Int) (v7 (cX 10 (s.drop p.2))).1 (v7 (cX 10 (s.drop p.2))).2=[.str [],.bool false]:=if_neg (fun h=>hok h.2)
    rw [hEq] at hEn
    generalize v7 (cX 10 (s.drop p.2))=e at *
    generalize cX 10 (s.drop p.2)=L at *
    repeat' (first|(simp only [hd,cP,hrd,cK,aA,decide_true,↓wA,↓wC,wB,cU,cT,bW,bX,bY,reduceIte,reduceCtorEq,aG,bZ,wU])|(refine cJ (hC1) rfl rfl ?_)|(refine cL (hC1) rfl rfl ?_)|(refine cJ (hV') rfl rfl ?_)|(refine cL (hV') rfl rfl ?_)|(refine cJ (hC2) rfl rfl ?_)|(refine cL (hC2) rfl rfl ?_)|(refine cJ (hC3) rfl rfl ?_)|(refine cL (hC3) rfl rfl ?_)|(refine cJ (hEn) rfl rfl ?_)|(refine cL (hEn) rfl rfl ?_)|(with_reducible refine cO ?_ ?_; focus omega)|(with_reducible refine cO ?_ ?_; focus (simp; done))|(with_reducible refine cO ?_ ?_; focus (simp only [aB,aC]; omega))|(with_reducible refine cM ?_ ?_; focus (simp only [dX]; omega))|((first|apply cH|apply cI|apply cG)<;>intro h<;>try simp only [h]))
    all_goals (rw [hst])
  ·have hc10:(s.drop p.2).contains 10=false:=by
    cases h:(s.drop p.2).contains 10 with
    | false=>rfl
    | true=>exact absurd (aE.1 h) jT
   rw [hc10] at hC1
   have hst:=hp.stop10 jT
   repeat' (first|(simp only [hd,cP,cK,aA,↓wA,↓wC,wB,cU,cT,bW,bX,bY,reduceIte,reduceCtorEq,aG,bZ,wU])|(refine cJ (hC1) rfl rfl ?_)|(refine cL (hC1) rfl rfl ?_)|(with_reducible refine cO ?_ ?_; focus omega)|((first|apply cH|apply cI|apply cG)<;>intro h<;>try simp only [h]))
   all_goals (rw [hst])
 ·have hd:decide ((p.1.length:Int) < 60)=false:=decide_eq_false (by omega)
  have hst:=hp.stopLen hlt
  repeat' (first|(simp only [hd,cP,cK,aA,↓wA,↓wC,wB,cU,cT,bW,bX,bY,reduceIte,reduceCtorEq,aG,bZ,wU])|((first|apply cH|apply cI|apply cG)<;>intro h<;>try simp only [h]))
  all_goals (rw [hst])
theorem aHe (k:Int) (L:List UInt8) (h0:0<=k) (hk:dX .i64 k) (hl:L.length<=100000000):Fn prog 80 [.str L,.int .i64 k] (fun rs=>rs=[jH (rdv k L).1,.bool (rdv k L).2]):=by
 have hN:=fI k h0 hk
 have hi:=eL k hk
 have hS:=sP L 35 (by omega)
 have hb:=lL 35 L
 have hS2:=sP (l5 k L) 64 (by unfold l5; rw [aN]; omega)
 have hp0:=rZ 35 L
 have hp1:=rZ 64 (l5 k L)
 by_cases hA:(cX 35 L).length < (Lib.itoa k).length + 1
 ·have hv:rdv k L=(([],[]),false):=if_pos (.inl hA)
  rw [hv]
  have hd:decide (((cX 35 L).length:Int) < (((Lib.itoa k).length + 1:Nat):Int))=true:=decide_eq_true (by omega)
  generalize cX 35 L=T at *
  refine cW aDf [] ?_
  dsimp only [aDf,m80,rF,cS,cE,cR,c8]
  try simp only [wQ]
  repeat' (first|(simp only [dC,hp0,aD,cK,aO,hd,↓wA,↓wC,wB,bW,bX,reduceIte,reduceCtorEq,wU])|(refine cJ (hN) rfl rfl ?_)|(refine cL (hN) rfl rfl ?_)|(refine cJ (hS) rfl rfl ?_)|(refine cL (hS) rfl rfl ?_)|(with_reducible refine cO ?_ ?_; focus omega)|(with_reducible refine cO ?_ ?_; focus (simp only [aB,aC]; omega))|((first|apply cH|apply cI|apply cG)<;>intro h<;>try simp only [h]))
  all_goals rfl
 have hd:decide (((cX 35 L).length:Int) < (((Lib.itoa k).length + 1:Nat):Int))=false:=decide_eq_false (by omega)
 by_cases hB:(cX 35 L).take ((Lib.itoa k).length + 1)=Lib.itoa k ++ [32]
 ·have h1:¬ ((cX 35 L).length < (Lib.itoa k).length + 1\/(cX 35 L).take ((Lib.itoa k).length + 1)≠Lib.itoa k ++ [32]):=fun h=>h.elim hA fun h=>h hB
  have hd2:decide ((cX 35 L).take ((Lib.itoa k).length + 1)=Lib.itoa k ++ [32])=true:=decide_eq_true hB
  have hr:(cX 35 L).drop ((Lib.itoa k).length + 1)=l5 k L:=rfl
  have hrl:(l5 k L).length<=100000000:=by unfold l5; rw [aN]; omega
  have hb2:=lL 64 (l5 k L)
  by_cases h4:(64:UInt8) ∉ l5 k L
  ·have hv:rdv k L=(([],[]),false):=by unfold rdv; rw [if_neg h1,if_pos h4]
   rw [hv]
   have hd3:decide (((cX 64 (l5 k L)).length:Int)=((l5 k L).length:Int))=true:=decide_eq_true (by rw [nA h4])
   generalize cX 35 L=T at *
   refine cW aDf [] ?_
   dsimp only [aDf,m80,rF,cS,cE,cR,c8]
   try simp only [wQ]
   repeat' (first|(simp only [dC,hp0,hp1,aD,cK,aA,aO,hd,hd2,hr,hd3,↓wA,↓wC,wB,bW,bX,reduceIte,reduceCtorEq,wU])|(refine cJ (hS2) rfl rfl ?_)|(refine cL (hS2) rfl rfl ?_)|(refine cJ (hN) rfl rfl ?_)|(refine cL (hN) rfl rfl ?_)|(refine cJ (hS) rfl rfl ?_)|(refine cL (hS) rfl rfl ?_)|(with_reducible refine cO ?_ ?_; focus omega)|(with_reducible refine cO ?_ ?_; focus (simp only [aB,aC]; omega))|((first|apply cH|apply cI|apply cG)<;>intro h<;>try simp only [h]))
   all_goals rfl
  ·have hv:rdv k L=((cX 64 (l5 k L),after 64 (l5 k L)),fV (cX 64 (l5 k L)) (after 64 (l5 k L)) && decide (lD k (cX 64 (l5 k L)) (after 64 (l5 k L))=L)):=by unfold rdv; rw [if_neg h1,if_neg h4]
   rw [hv]
   have h64:(64:UInt8)∈l5 k L:=Classical.byContradiction fun h=>h4 h
   have hal:=rD h64
   have hd3:decide (((cX 64 (l5 k L)).length:Int)=((l5 k L).length:Int))=false:=decide_eq_false (by omega)
   have hdr:(l5 k L).drop ((cX 64 (l5 k L)).length + 1)=after 64 (l5 k L):=(wX h64).symm
   have hG:=vY (cX 64 (l5 k L)) (after 64 (l5 k L)) (by rw [d5]; omega) (by rw [d5]; omega)
   by_cases hok:fV (cX 64 (l5 k L)) (after 64 (l5 k L))=true
   ·have hLn:=aB3 k (cX 64 (l5 k L)) (after 64 (l5 k L)) h0 hk hok
    rw [hok] at hG ⊢
    have hle:decide (lD k (cX 64 (l5 k L)) (after 64 (l5 k L)) ++ [10]=L ++ [10])=decide (lD k (cX 64 (l5 k L)) (after 64 (l5 k L))=L):=decide_eq_decide.2 ⟨a6,fun h=>by rw [h]⟩
    rw [<- hle]
    have hcc:((cX 64 (l5 k L)).length:Int) + 1=(((cX 64 (l5 k L)).length + 1:Nat):Int):=rfl
    generalize cX 64 (l5 k L)=C at *
    generalize after 64 (l5 k L)=R at *
    generalize l5 k L=T2 at *
    generalize cX 35 L=T at *
    refine cW aDf [[1,1,1,1,1,1,1,1,0]] ?_
    dsimp only [aDf,m80,rF,cS,cE,cR,c8]
    try simp only [wQ]
    repeat' (first|(simp only [dC,hp0,hp1,aD,cK,aA,aO,hd,hd2,hr,hd3,hdr,hcc,↓wA,↓wC,wB,cU,cT,bW,bX,bY,reduceIte,reduceCtorEq,aG,bZ,wU])|(refine cJ (hS2) rfl rfl ?_)|(refine cL (hS2) rfl rfl ?_)|(refine cJ (hG) rfl rfl ?_)|(refine cL (hG) rfl rfl ?_)|(refine cJ (hLn) rfl rfl ?_)|(refine cL (hLn) rfl rfl ?_)|(refine dJ ?_)|(with_reducible refine cM ?_ ?_; focus (simp only [dX]; omega))|(refine cJ (hN) rfl rfl ?_)|(refine cL (hN) rfl rfl ?_)|(refine cJ (hS) rfl rfl ?_)|(refine cL (hS) rfl rfl ?_)|(with_reducible refine cO ?_ ?_; focus omega)|(with_reducible refine cO ?_ ?_; focus (simp only [aB,aC]; omega))|((first|apply cH|apply cI|apply cG)<;>intro h<;>try simp only [h]))
    refine dB (gJ 3 rfl) ?_
    simp only [D.unown,↓wA,↓wC,wB,cU,cT,bW,bX,bY,reduceIte,reduceCtorEq,aG,bZ,wU]
    repeat' (first|(simp only [cK,↓wA,↓wC,wB,bW,bX,reduceIte,reduceCtorEq,wU])|(refine cJ (hS2) rfl rfl ?_)|(refine cL (hS2) rfl rfl ?_)|(refine cJ (hG) rfl rfl ?_)|(refine cL (hG) rfl rfl ?_)|(refine cJ (hLn) rfl rfl ?_)|(refine cL (hLn) rfl rfl ?_)|(refine dJ ?_)|(with_reducible refine cM ?_ ?_; focus (simp only [dX]; omega))|(refine cJ (hN) rfl rfl ?_)|(refine cL (hN) rfl rfl ?_)|(refine cJ (hS) rfl rfl ?_)|(refine cL (hS) rfl rfl ?_)|(with_reducible refine cO ?_ ?_; focus omega)|(with_reducible refine cO ?_ ?_; focus (simp only [aB,aC]; omega))|((first|apply cH|apply cI|apply cG)<;>intro h<;>try simp only [h]))
    all_goals rfl
   ·rw [Bool.not_eq_true] at hok
    rw [hok] at hG ⊢
    have hcc:((cX 64 (l5 k L)).length:Int) + 1=(((cX 64 (l5 k L)).length + 1:Nat):Int):=rfl
    generalize cX 64 (l5 k L)=C at *
    generalize after 64 (l5 k L)=R at *
    generalize l5 k L=T2 at *
    generalize cX 35 L=T at *
    refine cW aDf [[1,1,1,1,1,1,1,1,0]] ?_
    dsimp only [aDf,m80,rF,cS,cE,cR,c8]
    try simp only [wQ]
    repeat' (first|(simp only [dC,hp0,hp1,aD,cK,aA,aO,hd,hd2,hr,hd3,hdr,hcc,↓wA,↓wC,wB,cU,cT,bW,bX,bY,reduceIte,reduceCtorEq,aG,bZ,wU])|(refine cJ (hS2) rfl rfl ?_)|(refine cL (hS2) rfl rfl ?_)|(refine cJ (hG) rfl rfl ?_)|(refine cL (hG) rfl rfl ?_)|(refine dJ ?_)|(with_reducible refine cM ?_ ?_; focus (simp only [dX]; omega))|(refine cJ (hN) rfl rfl ?_)|(refine cL (hN) rfl rfl ?_)|(refine cJ (hS) rfl rfl ?_)|(refine cL (hS) rfl rfl ?_)|(with_reducible refine cO ?_ ?_; focus omega)|(with_reducible refine cO ?_ ?_; focus (simp only [aB,aC]; omega))|((first|apply cH|apply cI|apply cG)<;>intro h<;>try simp only [h]))
    refine dB (gJ 3 rfl) ?_
    simp only [D.unown,↓wA,↓wC,wB,cU,cT,bW,bX,bY,reduceIte,reduceCtorEq,aG,bZ,wU]
    repeat' (first|(simp only [cK,↓wA,↓wC,wB,bW,bX,reduceIte,reduceCtorEq,wU])|(refine cJ (hS2) rfl rfl ?_)|(refine cL (hS2) rfl rfl ?_)|(refine cJ (hG) rfl rfl ?_)|(refine cL (hG) rfl rfl ?_)|(refine dJ ?_)|(with_reducible refine cM ?_ ?_; focus (simp only [dX]; omega))|(refine cJ (hN) rfl rfl ?_)|(refine cL (hN) rfl rfl ?_)|(refine cJ (hS) rfl rfl ?_)|(refine cL (hS) rfl rfl ?_)|(with_reducible refine cO ?_ ?_; focus omega)|(with_reducible refine cO ?_ ?_; focus (simp only [aB,aC]; omega))|((first|apply cH|apply cI|apply cG)<;>intro h<;>try simp only [h]))
    all_goals rfl
 ·have hv:rdv k L=(([],[]),false):=if_pos (.inr hB)
  rw [hv]
  have hd2:decide ((cX 35 L).take ((Lib.itoa k).length + 1)=Lib.itoa k ++ [32])=false:=decide_eq_false hB
  generalize cX 35 L=T at *
  refine cW aDf [] ?_
  dsimp only [aDf,m80,rF,cS,cE,cR,c8]
  try simp only [wQ]
  repeat' (first|(simp only [dC,hp0,aD,cK,aA,aO,hd,hd2,↓wA,↓wC,wB,bW,bX,reduceIte,reduceCtorEq,wU])|(refine cJ (hN) rfl rfl ?_)|(refine cL (hN) rfl rfl ?_)|(refine cJ (hS) rfl rfl ?_)|(refine cL (hS) rfl rfl ?_)|(with_reducible refine cO ?_ ?_; focus omega)|(with_reducible refine cO ?_ ?_; focus (simp only [aB,aC]; omega))|((first|apply cH|apply cI|apply cG)<;>intro h<;>try simp only [h]))
  all_goals rfl
def opS (s:List UInt8) (p:List (List UInt8×List UInt8)×Nat):St:=⟨[(0,.d (.str s)),(4,.own 0),(5,.d (.int .i64 p.2))],[.val (.sl true 2 (dl jH p.1))]⟩
theorem v8 (s:List UInt8) (hl:s.length<=100000000):Fn prog 47 [.str s] (fun rs=>rs=[.sl true 2 (dl jH (f5 60 0 s).1),.int .i64 ((f5 60 0 s).2:Nat)]):=by
 refine cW aTW [] ?_
 dsimp only [aTW,m47,rF,cS,cE,cR,c8]
 try simp only [wQ]
 repeat' (first|(simp only [cK,↓wA,↓wC,wB,bW,reduceIte,reduceCtorEq])|((first|apply cH|apply cI|apply cG)<;>intro h<;>try simp only [h]))
 refine eK (opS s) (Reads s) (fun p=>60 - p.1.length) ([],0) ?_ (aYh s) ?_
 ·exact (cV _ rfl ⟨⟨rfl,rfl⟩,⟨rfl,rfl⟩,⟨rfl,rfl⟩,trivial⟩)
 intro p hp
 have hpl:=hp.pos
 have h60:=hp.len
 have hE:=qK 60 0 s
 unfold opS
 by_cases hend:p.2 < s.length
 ·have hd0:decide ((p.2:Int) < (s.length:Int))=true:=decide_eq_true (by omega)
  by_cases hlt:p.1.length < 60
  ·have hd:decide ((p.1.length:Int) < 60)=true:=decide_eq_true (by omega)
   have hdr:(s.drop p.2).length<=100000000:=by rw [aN]; omega
   have hS:=sP (s.drop p.2) 10 (by omega)
   have hp0:=rZ 10 (s.drop p.2)
   have hbl:=lL 10 (s.drop p.2)
   have hR:=aHe (p.1.length:Int) (cX 10 (s.drop p.2)) (by omega) (u3 h60) (by omega)
   have hrd:=aSM (p.1.length:Int) (cX 10 (s.drop p.2))
   have h2:=aD0 10 (s.drop p.2)
   by_cases jT:(10:UInt8)∈s.drop p.2
   ·have hd2:decide (((parts 10 (s.drop p.2)).length:Int) < 2)=false:=decide_eq_false (by
     have h3:¬ (parts 10 (s.drop p.2)).length < 2:=fun h=>h2.1 h jT
     omega)
    have hal:=rD jT
    rw [aN] at hal
    cases hv:(rdv (p.1.length:Int) (cX 10 (s.drop p.2))).2 with
    | true =>
     rw [hv] at hR hrd
     simp only [if_true] at hrd
     have hnx:=hp.next hlt jT hrd
     generalize (rdv (p.1.length:Int) (cX 10 (s.drop p.2))).1=e at *
     generalize cX 10 (s.drop p.2)=L at *
     simp only [jH] at hR
     repeat' (first|(simp only [hd0,hd,hd2,hp0,cP,dC,aD,cK,aA,aO,↓wA,↓wC,wB,bW,bX,reduceIte,reduceCtorEq,aG])|(refine cJ (hS) rfl rfl ?_)|(refine cL (hS) rfl rfl ?_)|(refine cJ (hR) rfl rfl ?_)|(refine cL (hR) rfl rfl ?_)|(with_reducible refine cO ?_ ?_; focus omega)|(with_reducible refine cO ?_ ?_; focus (simp; done))|(with_reducible refine cM ?_ ?_; focus (simp only [dX]; omega))|((first|apply cH|apply cI|apply cG)<;>intro h<;>try simp only [h]))
     all_goals
      have hcast:(p.2:Int) + L.length + 1=((p.2 + (L.length + 1):Nat):Int):=by omega
      refine ⟨(p.1 ++ [e],p.2 + (L.length + 1)),?_,hnx,by simp only [aB,aC]; omega⟩
      rw [hcast,aMM]
      exact (cV _ rfl ⟨⟨rfl,rfl⟩,⟨rfl,rfl⟩,⟨rfl,rfl⟩,trivial⟩)
    | false =>
     rw [hv] at hR hrd
     have hst:=hp.stopRd hrd
     generalize (rdv (p.1.length:Int) (cX 10 (s.drop p.2))).1=e at *
     generalize cX 10 (s.drop p.2)=L at *
     simp only [jH] at hR
     repeat' (first|(simp only [hd0,hd,hd2,hp0,cP,dC,aD,cK,aA,aO,↓wA,↓wC,wB,bW,bX,reduceIte,reduceCtorEq])|(refine cJ (hS) rfl rfl ?_)|(refine cL (hS) rfl rfl ?_)|(refine cJ (hR) rfl rfl ?_)|(refine cL (hR) rfl rfl ?_)|(with_reducible refine cO ?_ ?_; focus omega)|(with_reducible refine cO ?_ ?_; focus (simp; done))|((first|apply cH|apply cI|apply cG)<;>intro h<;>try simp only [h]))
     all_goals (rw [hst])
   ·have hd2:decide (((parts 10 (s.drop p.2)).length:Int) < 2)=true:=decide_eq_true (by
     have h3:=h2.2 jT
     omega)
    have hst:=hp.stop10 jT
    generalize rdv (p.1.length:Int) (cX 10 (s.drop p.2))=e at *
    generalize cX 10 (s.drop p.2)=L at *
    simp only [jH] at hR
    repeat' (first|(simp only [hd0,hd,hd2,hp0,cP,dC,aD,cK,aA,aO,↓wA,↓wC,wB,bW,bX,reduceIte,reduceCtorEq])|(refine cJ (hS) rfl rfl ?_)|(refine cL (hS) rfl rfl ?_)|(refine cJ (hR) rfl rfl ?_)|(refine cL (hR) rfl rfl ?_)|(with_reducible refine cO ?_ ?_; focus omega)|(with_reducible refine cO ?_ ?_; focus (simp; done))|((first|apply cH|apply cI|apply cG)<;>intro h<;>try simp only [h]))
    all_goals (rw [hst])
  ·have hd:decide ((p.1.length:Int) < 60)=false:=decide_eq_false (by omega)
   have hst:=hp.stopLen hlt
   repeat' (first|(simp only [hd0,hd,cP,↓wA,↓wC,wB,bW,reduceIte,reduceCtorEq])|((first|apply cH|apply cI|apply cG)<;>intro h<;>try simp only [h]))
   all_goals (rw [hst])
 ·have hd0:decide ((p.2:Int) < (s.length:Int))=false:=decide_eq_false (by omega)
  have hst:=hp.stopEnd hend
  repeat' (first|(simp only [hd0,↓wA,↓wC,wB,bW,reduceIte,reduceCtorEq])|((first|apply cH|apply cI|apply cG)<;>intro h<;>try simp only [h]))
  all_goals (rw [hst])
def eQ (d p:List UInt8) (c:Int):D:=.st (.cons (.str d) (.cons (.str p) (.cons (.int .i64 c) .nil)))
theorem aMZ (d p:List UInt8) (c:Int):Fn prog 8 [eQ d p c] (fun rs=>rs=[eQ d p c]):=by
 refine cW ef8 [] ?_
 dsimp only [ef8,m8,rF,cS,cE,cR,c8]
 try simp only [wQ]
 simp only [eQ]
 repeat' (first|(simp only [↓wA,↓wC,wB,bW,bX,reduceIte,reduceCtorEq,aAF])|((first|apply cH|apply cI|apply cG)<;>intro h<;>try simp only [h]))
def lv (d p:List UInt8) (c:Int):Bool:=decide (((f5 60 0 (d ++ p)).2:Int)=((d ++ p).length:Nat)) && decide (((f5 60 0 d).2:Int)=(d.length:Nat)) && decide (c=((f5 60 0 (d ++ p)).1.length:Nat))
def y3 (d p:List UInt8):List (List UInt8×List UInt8):=(f5 60 0 (d ++ p)).1
theorem aG3 {d p:List UInt8} {c:Int} (h:lv d p c=true):d.length + p.length<=30000:=by
 simp only [lv,aR,decide_eq_true_eq] at h
 have hB:=aAr (B:=430) (fun k c r h0 h1 hok=>nH (by simp only [dX]; omega) hok) 60 0 (d ++ p) (by omega) (by omega)
 have:=h.1.1
 rw [aB] at this
 omega
theorem xI (d p:List UInt8) (c:Int) (hl:d.length + p.length<=100000000):Fn prog 49 [eQ d p c] (fun rs=>rs=[.sl true 2 (dl jH (y3 d p)),.bool (lv d p c)]):=by
 have hA:=tV (d ++ p) (by rw [aB]; omega)
 have hD:=tV d (by omega)
 refine cW aVA [] ?_
 dsimp only [aVA,m49,rF,cS,cE,cR,c8]
 try simp only [wQ]
 simp only [eQ]
 repeat' (first|(simp only [cP,cK,↓wA,↓wC,wB,cU,cT,bW,bX,bY,reduceIte,reduceCtorEq,aG,bZ,aAF])|(refine cJ (hA) rfl rfl ?_)|(refine cL (hA) rfl rfl ?_)|(refine cJ (hD) rfl rfl ?_)|(refine cL (hD) rfl rfl ?_)|(with_reducible refine cO ?_ ?_; focus (simp only [aB]; omega))|(with_reducible refine cO ?_ ?_; focus omega)|((first|apply cH|apply cI|apply cG)<;>intro h<;>try simp only [h]))
 all_goals (unfold y3 lv; simp_all [aB])
theorem vU (d p:List UInt8) (c:Int) (hl:d.length + p.length<=100000000):Fn prog 65 [eQ d p c] (fun rs=>rs=[.bool (lv d p c)]):=by
 have hR:=xI d p c hl
 refine cW aTY [] ?_
 dsimp only [aTY,m65,rF,cS,cE,cR,c8]
 try simp only [wQ]
 simp only [eQ] at hR ⊢
 repeat' (first|(simp only [↓wA,↓wC,wB,cU,cT,bW,bX,bY,reduceIte,reduceCtorEq,aG,bZ,aAF])|(refine cJ (hR) rfl rfl ?_)|(refine cL (hR) rfl rfl ?_)|((first|apply cH|apply cI|apply cG)<;>intro h<;>try simp only [h]))
theorem u9 (d p:List UInt8) (c:Int) (hl:d.length + p.length<=100000000):Fn prog 23 [eQ d p c] (fun rs=>rs=[.bool (lv d p c)]):=by
 have hA:=v8 (d ++ p) (by rw [aB]; omega)
 have hD:=v8 d (by omega)
 refine cW aVK [] ?_
 dsimp only [aVK,m23,rF,cS,cE,cR,c8]
 try simp only [wQ]
 simp only [eQ]
 repeat' (first|(simp only [cP,cK,↓wA,↓wC,wB,cU,cT,bW,bX,bY,reduceIte,reduceCtorEq,aG,bZ,aAF])|(refine cJ (hA) rfl rfl ?_)|(refine cL (hA) rfl rfl ?_)|(refine cJ (hD) rfl rfl ?_)|(refine cL (hD) rfl rfl ?_)|(with_reducible refine cO ?_ ?_; focus (simp only [aB]; omega))|(with_reducible refine cO ?_ ?_; focus omega)|(with_reducible refine cM ?_ ?_; focus (simp only [dX]; omega))|((first|apply cH|apply cI|apply cG)<;>intro h<;>try simp only [h]))
 all_goals
  by_cases hs:d.length + p.length<=30000
  ·first
    |(exfalso; simp only [decide_eq_true_eq] at *; omega)
    |(unfold lv; rw [show ((d ++ p).length:Int)=(d.length:Int) + p.length by simp,show decide (c=((f5 60 0 (d ++ p)).1.length:Int))=decide (((f5 60 0 (d ++ p)).1.length:Int)=c) from decide_eq_decide.2 eq_comm]; simp_all)
  ·have hf:lv d p c=false:=by
    cases hlv:lv d p c with
    | false=>rfl
    | true=>exact absurd (aG3 hlv) hs
   first
    |(exfalso; simp only [decide_eq_true_eq,decide_eq_false_iff_not] at *; omega)
    |(rw [hf])
def aKO (d p:List UInt8) (k:Int) (c r:List UInt8):List D :=
 if lv d p k=true/\fV c r=true then
  if k=60 then [eQ d p k,.int .i64 2] else [eQ d (p ++ (lD k c r ++ [10])) (k + 1),.int .i64 0]
 else [eQ d p k,.int .i64 1]
theorem aBK {d p:List UInt8} {k:Int} (h:lv d p k=true):0<=k/\k<=60:=by
 have hE:=qK 60 0 (d ++ p)
 simp only [lv,aR,decide_eq_true_eq] at h
 omega
theorem kX (d p:List UInt8) (k:Int) (c r:List UInt8) (hl:d.length + p.length<=1048576) (hc:c.length<=maxLen) (hr:r.length<=maxLen):Fn prog 39 [eQ d p k,lZ c r] (fun rs=>rs=aKO d p k c r):=by
 have hV:=vU d p k (by omega)
 have hI:=mJ c r hc hr
 have hE:=aD7 k c r hc hr
 unfold aKO
 cases hv:lv d p k with
 | false =>
  rw [hv] at hV
  refine cW aFF [] ?_
  dsimp only [aFF,m39,rF,cS,cE,cR,c8]
  try simp only [wQ]
  simp only [eQ,lZ] at hV ⊢
  repeat' (first|(simp only [↓wA,↓wC,wB,bW,bX,reduceIte,reduceCtorEq,aAF])|(refine cJ (hV) rfl rfl ?_)|(refine cL (hV) rfl rfl ?_)|((first|apply cH|apply cI|apply cG)<;>intro h<;>try simp only [h]))
  all_goals simp
 | true =>
  rw [hv] at hV
  have hk:=aBK hv
  cases hok:fV c r with
  | false =>
   rw [hok] at hI
   refine cW aFF [] ?_
   dsimp only [aFF,m39,rF,cS,cE,cR,c8]
   try simp only [wQ]
   simp only [eQ,lZ] at hV hI ⊢
   repeat' (first|(simp only [↓wA,↓wC,wB,bW,bX,reduceIte,reduceCtorEq,aAF])|(refine cJ (hV) rfl rfl ?_)|(refine cL (hV) rfl rfl ?_)|(refine cJ (hI) rfl rfl ?_)|(refine cL (hI) rfl rfl ?_)|((first|apply cH|apply cI|apply cG)<;>intro h<;>try simp only [h]))
   all_goals simp
  | true =>
   rw [hok] at hI
   by_cases h60:k=60
   ·have hd:decide (k=60)=true:=decide_eq_true h60
    refine cW aFF [] ?_
    dsimp only [aFF,m39,rF,cS,cE,cR,c8]
    try simp only [wQ]
    simp only [eQ,lZ] at hV hI ⊢
    repeat' (first|(simp only [hd,↓wA,↓wC,wB,bW,bX,reduceIte,reduceCtorEq,aAF])|(refine cJ (hV) rfl rfl ?_)|(refine cL (hV) rfl rfl ?_)|(refine cJ (hI) rfl rfl ?_)|(refine cL (hI) rfl rfl ?_)|((first|apply cH|apply cI|apply cG)<;>intro h<;>try simp only [h]))
    all_goals simp [h60]
   ·have hd:decide (k=60)=false:=decide_eq_false h60
    have hEq:aHt k c r=[.str (lD k c r ++ [10]),.bool true]:=if_pos ⟨by simp [c6]; omega,hok⟩
    have hll:=nH (k:=k) (by simp only [dX]; omega) hok
    rw [hEq] at hE
    refine cW aFF [] ?_
    dsimp only [aFF,m39,rF,cS,cE,cR,c8]
    try simp only [wQ]
    simp only [eQ,lZ] at hV hI hE ⊢
    repeat' (first|(simp only [hd,cK,↓wA,↓wC,wB,bW,bX,reduceIte,reduceCtorEq,aAF])|(refine cJ (hV) rfl rfl ?_)|(refine cL (hV) rfl rfl ?_)|(refine cJ (hI) rfl rfl ?_)|(refine cL (hI) rfl rfl ?_)|(refine cJ (hE) rfl rfl ?_)|(refine cL (hE) rfl rfl ?_)|(with_reducible refine cO ?_ ?_; focus ((try simp only [aB,aC]); omega))|(with_reducible refine cM ?_ ?_; focus (simp only [dX]; omega))|((first|apply cH|apply cI|apply cG)<;>intro h<;>try simp only [h]))
    all_goals simp [h60]
theorem vO (d p:List UInt8) (k:Int) (c r:List UInt8) (hl:d.length + p.length<=1048576) (hc:c.length<=maxLen) (hr:r.length<=maxLen):Fn prog 32 [eQ d p k,lZ c r] (fun rs=>rs=aKO d p k c r):=by
 have hV:=u9 d p k (by omega)
 have hI:=vY c r hc hr
 unfold aKO
 cases hv:lv d p k with
 | false =>
  rw [hv] at hV
  refine cW aGu [] ?_
  dsimp only [aGu,m32,rF,cS,cE,cR,c8]
  try simp only [wQ]
  simp only [eQ,lZ] at hV ⊢
  repeat' (first|(simp only [↓wA,↓wC,wB,bW,bX,reduceIte,reduceCtorEq,aAF])|(refine cJ (hV) rfl rfl ?_)|(refine cL (hV) rfl rfl ?_)|((first|apply cH|apply cI|apply cG)<;>intro h<;>try simp only [h]))
  all_goals simp
 | true =>
  rw [hv] at hV
  have hk:=aBK hv
  cases hok:fV c r with
  | false =>
   rw [hok] at hI
   refine cW aGu [] ?_
   dsimp only [aGu,m32,rF,cS,cE,cR,c8]
   try simp only [wQ]
   simp only [eQ,lZ] at hV hI ⊢
   repeat' (first|(simp only [↓wA,↓wC,wB,bW,bX,reduceIte,reduceCtorEq,aAF])|(refine cJ (hV) rfl rfl ?_)|(refine cL (hV) rfl rfl ?_)|(refine cJ (hI) rfl rfl ?_)|(refine cL (hI) rfl rfl ?_)|((first|apply cH|apply cI|apply cG)<;>intro h<;>try simp only [h]))
   all_goals simp
  | true =>
   rw [hok] at hI
   by_cases h60:k=60
   ·have hd:decide (k=60)=true:=decide_eq_true h60
    refine cW aGu [] ?_
    dsimp only [aGu,m32,rF,cS,cE,cR,c8]
    try simp only [wQ]
    simp only [eQ,lZ] at hV hI ⊢
    repeat' (first|(simp only [hd,↓wA,↓wC,wB,bW,bX,reduceIte,reduceCtorEq,aAF])|(refine cJ (hV) rfl rfl ?_)|(refine cL (hV) rfl rfl ?_)|(refine cJ (hI) rfl rfl ?_)|(refine cL (hI) rfl rfl ?_)|((first|apply cH|apply cI|apply cG)<;>intro h<;>try simp only [h]))
    all_goals simp [h60]
   ·have hd:decide (k=60)=false:=decide_eq_false h60
    have hE:=aB3 k c r hk.1 (by simp only [dX]; omega) hok
    have hll:=nH (k:=k) (by simp only [dX]; omega) hok
    refine cW aGu [] ?_
    dsimp only [aGu,m32,rF,cS,cE,cR,c8]
    try simp only [wQ]
    simp only [eQ,lZ] at hV hI hE ⊢
    repeat' (first|(simp only [hd,cK,↓wA,↓wC,wB,bW,bX,reduceIte,reduceCtorEq,aG,bZ,aAF])|(refine cJ (hV) rfl rfl ?_)|(refine cL (hV) rfl rfl ?_)|(refine cJ (hI) rfl rfl ?_)|(refine cL (hI) rfl rfl ?_)|(refine cJ (hE) rfl rfl ?_)|(refine cL (hE) rfl rfl ?_)|(refine dJ ?_)|(with_reducible refine cO ?_ ?_; focus ((try simp only [aB,aC]); omega))|(with_reducible refine cM ?_ ?_; focus (simp only [dX]; omega))|((first|apply cH|apply cI|apply cG)<;>intro h<;>try simp only [h]))
    all_goals simp [h60]
structure Digs (k:Int) (p:Int×List UInt8):Prop where
 lo:0<=p.1
 hi:p.1<=k
 len:p.2.length<=21
 eq:Lib.decDigits k.toNat=if p.1=0 then p.2 else Lib.decDigits p.1.toNat ++ p.2
theorem Digs.start {k:Int} (h:0 < k):Digs k (k,[]):=⟨by show 0<=k; omega,by show k<=k; omega,by simp,by simp only; rw [if_neg (by omega)]; simp⟩
theorem Digs.next {k:Int} {p:Int×List UInt8} (hk:k<=100000000000000) (h:Digs k p) (hp:0 < p.1):Digs k (p.1 / 10,aL (48 + (p.1 % 10).toNat) :: p.2):=by
 obtain ⟨n,s⟩:=p
 have h0:(0:Int) < n:=hp
 obtain ⟨m,rfl⟩:=a7 (show (0:Int)<=n by omega)
 have he:=h.eq
 have hh:=h.hi
 simp only at he hh ⊢
 rw [if_neg (by omega),aA] at he
 have hmd:((m:Int) % 10).toNat=m % 10:=by omega
 have hdv:((m:Int) / 10).toNat=m / 10:=by omega
 have key:Lib.decDigits k.toNat=if (m:Int) / 10=0 then aL (48 + m % 10) :: s else Lib.decDigits (m / 10) ++ aL (48 + m % 10) :: s:=by
  rw [he]
  by_cases jT:m < 10
  ·rw [sW jT,if_pos (by omega),show m % 10=m by omega]; rfl
  ·rw [tG jT,if_neg (by omega)]; simp
 have hl:=xB k.toNat (by omega)
 refine ⟨by show (0:Int)<=(m:Int) / 10; omega,by show (m:Int) / 10<=k; omega,?_,by simp only [hmd,hdv]; exact key⟩
 rw [key] at hl
 simp only [hmd]
 split at hl
 ·exact hl
 ·rw [aB] at hl; omega
theorem Digs.done {k:Int} {p:Int×List UInt8} (h:Digs k p) (hp:¬ 0 < p.1):Lib.decDigits k.toNat=p.2:=by
 have:=h.lo
 rw [h.eq,if_pos (by omega)]
theorem aIV {e:List UInt8×List UInt8}:gG [0] (jH e)=some (.str e.1):=rfl
theorem aIH {e:List UInt8×List UInt8}:gG [1] (jH e)=some (.str e.2):=rfl
theorem aIR {e:List UInt8×List UInt8}:fB [0] (jH e)=0:=rfl
theorem aIS {e:List UInt8×List UInt8}:fB [1] (jH e)=1:=rfl
def uG (d p:List UInt8) (c:Int):List (List UInt8×List UInt8):=if lv d p c=true then y3 d p else []
theorem xE (d p:List UInt8) (c:Int) (hl:d.length + p.length<=100000000):Fn prog 26 [eQ d p c] (fun rs=>rs=[.sl true 2 (dl jH (uG d p c)),.bool (lv d p c)]):=by
 have hR:=xI d p c hl
 unfold uG
 cases hv:lv d p c with
 | true =>
  rw [hv] at hR
  refine cW aQh [] ?_
  dsimp only [aQh,m26,rF,cS,cE,cR,c8]
  try simp only [wQ]
  simp only [eQ] at hR ⊢
  repeat' (first|(simp only [↓wA,↓wC,wB,bW,bX,reduceIte,reduceCtorEq])|(refine cJ (hR) rfl rfl ?_)|(refine cL (hR) rfl rfl ?_)|(refine l0 2 ?_)|((first|apply cH|apply cI|apply cG)<;>intro h<;>try simp only [h]))
  all_goals simp
 | false =>
  rw [hv] at hR
  refine cW aQh [] ?_
  dsimp only [aQh,m26,rF,cS,cE,cR,c8]
  try simp only [wQ]
  simp only [eQ] at hR ⊢
  repeat' (first|(simp only [↓wA,↓wC,wB,bW,bX,reduceIte,reduceCtorEq])|(refine cJ (hR) rfl rfl ?_)|(refine cL (hR) rfl rfl ?_)|(refine l0 2 ?_)|((first|apply cH|apply cI|apply cG)<;>intro h<;>try simp only [h]))
  all_goals first|rfl|(simp [dl]; rfl)
theorem x5 (d p:List UInt8) (c:Int) (hl:d.length + p.length<=1048576):Fn prog 24 [eQ d p c] (fun rs=>rs=[.sl true 2 (dl jH (uG d p c)),.bool (lv d p c)]):=by
 have hV:=u9 d p c (by omega)
 have hO:=v8 (d ++ p) (by rw [aB]; omega)
 unfold uG
 cases hv:lv d p c with
 | true =>
  rw [hv] at hV
  refine cW aPX [] ?_
  dsimp only [aPX,m24,rF,cS,cE,cR,c8]
  try simp only [wQ]
  simp only [eQ] at hV ⊢
  repeat' (first|(simp only [cK,↓wA,↓wC,wB,bW,bX,reduceIte,reduceCtorEq])|(refine cJ (hV) rfl rfl ?_)|(refine cL (hV) rfl rfl ?_)|(refine cJ (hO) rfl rfl ?_)|(refine cL (hO) rfl rfl ?_)|(with_reducible refine cO ?_ ?_; focus omega)|((first|apply cH|apply cI|apply cG)<;>intro h<;>try simp only [h]))
  all_goals simp [y3]
 | false =>
  rw [hv] at hV
  refine cW aPX [] ?_
  dsimp only [aPX,m24,rF,cS,cE,cR,c8]
  try simp only [wQ]
  simp only [eQ] at hV ⊢
  repeat' (first|(simp only [cK,↓wA,↓wC,wB,bW,bX,reduceIte,reduceCtorEq])|(refine cJ (hV) rfl rfl ?_)|(refine cL (hV) rfl rfl ?_)|((first|apply cH|apply cI|apply cG)<;>intro h<;>try simp only [h]))
  all_goals first|rfl|(simp [dl]; rfl)
end Go.Pe.Tryz
namespace Go.Pe.Tryz
open Go.Proofs.Tryz
structure App where
 i:Int
 q:Int
 d:Int
 a:List Int
 h:List Int
 s:Int
def App.d' (x:App):D:=.st (.cons (.int .i64 x.i) (.cons (.int .i64 x.q) (.cons (.int .i64 x.d) (.cons (.sl false 1 (dl iD x.a)) (.cons (.sl false 1 (dl iD x.h)) (.cons (.int .i64 x.s) .nil))))))
def App.ok0 (x:App):Prop:=x.a.length<=1048576/\x.h.length<=1048576
theorem dE (v:List Int):(dl iD v).noOwn=true:=oR aNh v
theorem dS (v:List Int):(dl iD v).unown=dl iD v:=rG aNx v
theorem App.noOwn (x:App):x.d'.noOwn=true:=by simp [App.d',D.noOwn,dE]
theorem App.unown (x:App):x.d'.unown=x.d':=by simp [App.d',D.unown,dS]
theorem aJM {α:Type} {xs:List α} {i:Nat} {a:α} (h:xs[i]?=some a):xs.drop i=a :: xs.drop (i + 1):=by
 have hi:=cQ h
 rw [aW hi]
 rw [List.getElem?_eq_getElem hi] at h
 injection h with h
 rw [h]
theorem aCo (n:Int):Fn prog 81 [.int .i64 n] (fun rs=>rs=[.bool (c6 n 0 20000)]):=by
 refine cW aTC [] ?_
 dsimp only [aTC,m81,rF,cS,cE,cR,c8]
 try simp only [wQ]
 repeat' (first|(simp only [↓wA,↓wC,wB,bW,reduceIte,reduceCtorEq])|(refine cJ (eT _ _ _) rfl rfl ?_)|(refine cL (eT _ _ _) rfl rfl ?_)|((first|apply cH|apply cI|apply cG)<;>intro h<;>try simp only [h]))
theorem aB7 (n:Int):Fn prog 79 [.int .i64 n] (fun rs=>rs=[.bool (c6 n 0 20000)]):=by
 refine cW aVp [] ?_
 dsimp only [aVp,m79,rF,cS,cE,cR,c8]
 try simp only [wQ]
 repeat' (first|(simp only [↓wA,↓wC,wB,bW,reduceIte,reduceCtorEq])|(refine cJ (iA _ _ _) rfl rfl ?_)|(refine cL (iA _ _ _) rfl rfl ?_)|((first|apply cH|apply cI|apply cG)<;>intro h<;>try simp only [h]))
theorem aGp (v:List Int) (n:Int) (hlen:v.length<=1048576):Fn prog 126 [.sl false 1 (dl iD v),.int .i64 n] (fun rs=>rs=[.bool (v.contains n)]):=by
 refine cW aRp [] ?_
 dsimp only [aRp,aV9,rF,cS,cE,cR,c8]
 try simp only [wQ]
 simp only [↓wA,↓wC,wB,bW,bX,reduceIte,reduceCtorEq]
 refine eK (fun i:Nat=>⟨[(0,.d (.sl false 1 (dl iD v))),(1,.d (.int .i64 n)),(5,.d (.int .i64 i))],[]⟩)
  (fun i=>i<=v.length/\n ∉ v.take i) (fun i=>v.length - i) 0 (cV [] rfl ⟨⟨rfl,rfl⟩,⟨rfl,rfl⟩,⟨rfl,rfl⟩,trivial⟩) ⟨aT _,by simp⟩ ?_
 rintro i ⟨hi,hp⟩
 by_cases hlt:i < v.length
 ·obtain ⟨r,hr⟩:=dW hlt
  have hd:decide ((i:Int) < (v.length:Int))=true:=decide_eq_true (by omega)
  have h0:(0:Int)<=(i:Int):=by omega
  by_cases hc:r=n
  ·have hm:v.contains n=true:=by rw [aE]; rw [<- hc]; exact aM hr
   have hdc:decide (r=n)=true:=decide_eq_true hc
   simp only [cP,dC,hd,h0,hr,aD,aA,cK,iD,hdc,hm,↓wA,↓wC,wB,bW,reduceIte,reduceCtorEq]
  ·have hdc:decide (r=n)=false:=decide_eq_false hc
   simp only [cP,dC,hd,h0,hr,aD,aA,cK,iD,hdc,↓wA,↓wC,wB,bW,reduceIte,reduceCtorEq]
   refine cM (by simp only [dX]; omega) ?_
   refine ⟨i + 1,cV [] rfl ⟨⟨rfl,rfl⟩,⟨rfl,rfl⟩,⟨rfl,rfl⟩,trivial⟩,⟨by omega,?_⟩,by omega⟩
   have hi:=cQ hr
   rw [aF hi]
   have:v[i]=r:=by rw [List.getElem?_eq_getElem hi] at hr; injection hr
   rw [this]
   simp only [aV,aP,not_or]
   exact ⟨hp,fun h=>hc h.symm⟩
 ·have hd:decide ((i:Int) < (v.length:Int))=false:=decide_eq_false (by omega)
  simp only [cP,hd,↓wA,↓wC,wB,bW,reduceIte,reduceCtorEq]
  rw [aI (by omega)] at hp
  have:v.contains n=false:=by
   cases h:v.contains n with
   | false=>rfl
   | true=>exact absurd (aE.1 h) hp
  rw [this]
def mZ (v:List Int):Bool:=(bV (v.length - 1)).all fun j=>decide (v.getD j 0 < v.getD (j + 1) 0)
theorem qQ (v:List Int):mZ v=true↔∀ j,j + 1 < v.length->v.getD j 0 < v.getD (j + 1) 0:=by
 simp only [mZ,aZ,List.mem_range,decide_eq_true_eq]
 exact ⟨fun h j hj=>h j (by omega),fun h j hj=>h j (by omega)⟩
theorem aEt (v:List Int) (hlen:v.length<=1048576):Fn prog 137 [.sl false 1 (dl iD v)] (fun rs=>rs=[.bool (mZ v)]):=by
 refine cW aQs [] ?_
 dsimp only [aQs,aTL,rF,cS,cE,cR,c8]
 try simp only [wQ]
 simp only [↓wA,↓wC,wB,reduceIte,reduceCtorEq]
 refine eK (fun i:Nat=>⟨[(0,.d (.sl false 1 (dl iD v))),(3,.d (.int .i64 (i + 1:Nat)))],[]⟩)
  (fun i=>i<=v.length/\∀ j,j + 1 < i + 1->j + 1 < v.length->v.getD j 0 < v.getD (j + 1) 0) (fun i=>v.length - i) 0 (cV [] rfl ⟨⟨rfl,rfl⟩,⟨rfl,rfl⟩,trivial⟩) ⟨aT _,fun j h=>by omega⟩ ?_
 rintro i ⟨hi,hp⟩
 by_cases hlt:i + 1 < v.length
 ·obtain ⟨a,ha⟩:=dW (show i < v.length by omega)
  obtain ⟨b,hb⟩:=dW hlt
  have hd:decide (((i + 1:Nat):Int) < (v.length:Int))=true:=decide_eq_true (by omega)
  have h0:(0:Int)<=((i + 1:Nat):Int):=by omega
  have h1:(0:Int)<=((i + 1:Nat):Int) - 1:=by omega
  have ha':v[(((i + 1:Nat):Int) - 1).toNat]?=some a:=by rw [show (((i + 1:Nat):Int) - 1).toNat=i by omega]; exact ha
  have ga:v.getD i 0=a:=by simp [bE,ha]
  have gb:v.getD (i + 1) 0=b:=by simp [bE,hb]
  repeat' (first|(simp only [cP,dC,hd,h0,h1,ha',hb,aA,aD,cK,iD,↓wA,↓wC,wB,bW,reduceIte,reduceCtorEq])|(refine cM (by simp only [dX]; omega) ?_)|((first|apply cH|apply cI|apply cG)<;>intro h<;>try simp only [h]))
  ·have hr:mZ v=false:=by
    cases hr:mZ v with
    | false=>rfl
    | true =>
     have:=(qQ v).1 hr i hlt
     rw [ga,gb] at this
     simp at h; omega
   rw [hr]
  ·refine ⟨i + 1,cV [] rfl ⟨⟨rfl,rfl⟩,⟨rfl,rfl⟩,trivial⟩,⟨by omega,fun j hj hj2=>?_⟩,by omega⟩
   by_cases e:j=i
   ·subst e
    rw [ga,gb]
    simp at h; omega
   ·exact hp j (by omega) hj2
 ·have hd:decide (((i + 1:Nat):Int) < (v.length:Int))=false:=decide_eq_false (by omega)
  have hr:mZ v=true:=(qQ v).2 fun j hj=>hp j (by omega) hj
  simp only [cP,hd,↓wA,↓wC,wB,bW,reduceIte,reduceCtorEq]
  rw [hr]
theorem aDi (p:Int->Bool) (g:Nat) (c:D) (xs:List Int) (hc:c.caps=true) (he:fX prog.P g=true) (hlen:xs.length<=1048576) (hp:∀ x∈xs,Fn prog g (iD x :: c.list) (fun rs=>rs=[.bool (p x)])) :
  Fn prog 174 [.sl false 1 (dl iD xs),.clo g c] (fun rs=>rs=[.int .i64 (jX p xs)]):=by
 refine cW aQR [] ?_
 dsimp only [aQR,aUu,rF,cS,cE,cR,c8]
 try simp only [wQ]
 simp only [cP,↓wA,↓wC,wB,bW,bX,reduceIte,reduceCtorEq]
 refine dV xs.length (fun i:Nat=>⟨[(0,.d (.sl false 1 (dl iD xs))),(1,.d (.clo g c)),(7,.d (.int .i64 xs.length)),(8,.d (.int .i64 i))],[]⟩) (fun i=>∀ j r,j < i->xs[j]?=some r->p r=false) (cV _ rfl ⟨⟨rfl,rfl⟩,⟨rfl,rfl⟩,⟨rfl,rfl⟩,⟨rfl,rfl⟩,trivial⟩) (fun j r hj=>by omega) ?_ ?_
 ·intro i hlt hinv hd h0
  obtain ⟨r,hr⟩:=dW hlt
  have hcl:=hp r (aM hr)
  simp only [hd,h0,dC,aA,hr,aD,cK,↓sZ,↓wA,↓wC,wB,bW,reduceIte,reduceCtorEq]
  refine uV (ds:=[iD r]) hcl he hc (by simp [dA,dK,iD]) rfl ?_
  cases hpr:p r with
  | true =>
   simp only [↓wA,↓wC,wB,bW,reduceIte,reduceCtorEq]
   rw [qH hr hpr hinv]
  | false =>
   simp only [↓wA,↓wC,wB,bW,reduceIte,reduceCtorEq]
   refine cM (by simp only [dX]; omega) ?_
   refine e7 (cV _ rfl ⟨⟨rfl,rfl⟩,⟨rfl,rfl⟩,⟨rfl,rfl⟩,⟨rfl,rfl⟩,trivial⟩) hlt fun j s hj hs=>?_
   by_cases e:j=i
   ·subst e; rw [hr] at hs; injection hs with hs; rw [<- hs]; exact hpr
   ·exact hinv j s (by omega) hs
 ·intro hinv hd
  simp only [hd,↓wA,↓wC,wB,bW,reduceIte,reduceCtorEq]
  rw [oW fun j r hj=>hinv j r (cQ hj) hj]
theorem aAh (p:Int->Bool) (g:Nat) (c:D) (xs:List Int) (hc:c.caps=true) (he:fX prog.P g=true) (hlen:xs.length<=1048576) (hp:∀ x∈xs,Fn prog g (iD x :: c.list) (fun rs=>rs=[.bool (p x)])) :
  Fn prog 138 [.sl false 1 (dl iD xs),.clo g c] (fun rs=>rs=[.bool (xs.any p)]):=by
 refine cW aQS [] ?_
 dsimp only [aQS,aTT,rF,cS,cE,cR,c8]
 try simp only [wQ]
 simp only [↓wA,↓wC,wB,bW,bX,reduceIte,reduceCtorEq]
 refine cJ (aDi p g c xs hc he hlen hp) rfl rfl ?_
 simp only [rA,↓wA,wB,reduceIte]
theorem aDN (xs:List Int) (v:Int) (hlen:xs.length<=1048576) :
  Fn prog 189 [.sl false 1 (dl iD xs),iD v] (fun rs=>rs=[.int .i64 (jX (fun x=>decide (v=x)) xs)]):=by
 refine cW aRb [] ?_
 dsimp only [aRb,aVs,rF,cS,cE,cR,c8]
 try simp only [wQ]
 simp only [cP,iD,↓wA,↓wC,wB,bW,bX,reduceIte,reduceCtorEq]
 refine dV xs.length (fun i:Nat=>⟨[(0,.d (.sl false 1 (dl iD xs))),(1,.d (iD v)),(7,.d (.int .i64 xs.length)),(8,.d (.int .i64 i))],[]⟩) (fun i=>∀ j r,j < i->xs[j]?=some r->decide (v=r)=false) (cV _ rfl ⟨⟨rfl,rfl⟩,⟨rfl,rfl⟩,⟨rfl,rfl⟩,⟨rfl,rfl⟩,trivial⟩) (fun j r hj=>by omega) ?_ ?_
 ·intro i hlt hinv hd h0
  obtain ⟨r,hr⟩:=dW hlt
  simp only [hd,h0,dC,aA,hr,aD,cK,iD,↓wA,↓wC,wB,bW,reduceIte,reduceCtorEq]
  by_cases hpr:v=r
  ·simp only [decide_eq_true hpr,↓wA,↓wC,wB,bW,reduceIte,reduceCtorEq]
   rw [qH hr (decide_eq_true hpr) hinv]
  ·simp only [decide_eq_false hpr,↓wA,↓wC,bW,reduceIte,reduceCtorEq]
   refine cM (by simp only [dX]; omega) ?_
   refine e7 (cV _ rfl ⟨⟨rfl,rfl⟩,⟨rfl,rfl⟩,⟨rfl,rfl⟩,⟨rfl,rfl⟩,trivial⟩) hlt fun j s hj hs=>?_
   by_cases e:j=i
   ·subst e; rw [hr] at hs; injection hs with hs; rw [<- hs]; exact decide_eq_false hpr
   ·exact hinv j s (by omega) hs
 ·intro hinv hd
  simp only [hd,↓wA,↓wC,wB,bW,reduceIte,reduceCtorEq]
  rw [oW fun j r hj=>hinv j r (cQ hj) hj]
theorem xJ (xs:List Int) (v:Int) (hlen:xs.length<=1048576):Fn prog 151 [.sl false 1 (dl iD xs),.int .i64 v] (fun rs=>rs=[.bool (xs.contains v)]):=by
 refine cW aQq [] ?_
 dsimp only [aQq,aTQ,rF,cS,cE,cR,c8]
 try simp only [wQ]
 simp only [↓wA,↓wC,wB,bW,bX,reduceIte,reduceCtorEq]
 refine cJ (aDN xs v hlen) rfl rfl ?_
 simp only [rA,s5,↓wA,wB,reduceIte]
theorem aIZ {α:Type} (p:α->Bool) (xs:List α):xs.any (fun x=>!p x)=!xs.all p:=by
 induction xs with
 | nil=>rfl
 | cons a v ih=>simp [List.any_cons,bT,ih]
theorem aGR (v:List Int) (a b:Int) (hlen:v.length<=1048576):Fn prog 124 [.sl false 1 (dl iD v),.int .i64 a,.int .i64 b] (fun rs=>rs=[.bool (v.all (fun n=>c6 n a b) && mZ v)]):=by
 refine cW aRQ [] ?_
 dsimp only [aRQ,aVj,rF,cS,cE,cR,c8]
 try simp only [wQ]
 simp only [↓wA,↓wC,wB,bW,bX,reduceIte,reduceCtorEq]
 refine dV v.length (fun i:Nat=>⟨[(0,.d (.sl false 1 (dl iD v))),(1,.d (.int .i64 a)),(2,.d (.int .i64 b)),(7,.d (.int .i64 i))],[]⟩) (fun i=>(∀ j r,j < i->v[j]?=some r->c6 r a b=true)/\∀ j,j + 1 < i->v.getD j 0 < v.getD (j + 1) 0) (cV _ rfl ⟨⟨rfl,rfl⟩,⟨rfl,rfl⟩,⟨rfl,rfl⟩,⟨rfl,rfl⟩,trivial⟩) ⟨fun j r hj=>by omega,fun j hj=>by omega⟩ ?_ ?_
 ·rintro i hlt ⟨hin,hri⟩ hd h0
  obtain ⟨r,hr⟩:=dW hlt
  have gr:v.getD i 0=r:=by simp [bE,hr]
  have hc:=iA r a b
  cases hw:c6 r a b with
  | false =>
   have hres:(v.all (fun n=>c6 n a b) && mZ v)=false:=by
    have:v.all (fun n=>c6 n a b)=false:=bF.2 ⟨r,aM hr,by simp [hw]⟩
    rw [this]; rfl
   rw [hw] at hc
   repeat' (first|(simp only [cP,dC,hd,h0,aA,hr,aD,↓sZ,cK,↓wA,↓wC,wB,bW,reduceIte,reduceCtorEq])|(refine cJ (hc) rfl rfl ?_)|(refine cL (hc) rfl rfl ?_)|((first|apply cH|apply cI|apply cG)<;>intro h<;>try simp only [h]))
   all_goals rw [hres]
  | true =>
   rw [hw] at hc
   have hin':∀ j s,j < i + 1->v[j]?=some s->c6 s a b=true:=fun j s hj hs=>by
    by_cases e:j=i
    ·subst e; rw [hr] at hs; injection hs with hs; rw [<- hs]; exact hw
    ·exact hin j s (by omega) hs
   cases i with
   | zero =>
    have hg:decide ((0:Int) < ((0:Nat):Int))=false:=by decide
    repeat' (first|(simp only [cP,dC,hd,h0,aA,hr,aD,↓sZ,cK,hg,↓wA,↓wC,wB,bW,reduceIte,reduceCtorEq])|(refine cJ (hc) rfl rfl ?_)|(refine cL (hc) rfl rfl ?_)|(refine cM (by simp only [dX]; omega) ?_)|((first|apply cH|apply cI|apply cG)<;>intro h<;>try simp only [h]))
    all_goals exact e7 (cV _ rfl ⟨⟨rfl,rfl⟩,⟨rfl,rfl⟩,⟨rfl,rfl⟩,⟨rfl,rfl⟩,trivial⟩) hlt ⟨hin',fun j hj=>by omega⟩
   | succ k =>
    obtain ⟨y,hy⟩:=dW (show k < v.length by omega)
    have gy:v.getD k 0=y:=by simp [bE,hy]
    have hg:decide ((0:Int) < ((k + 1:Nat):Int))=true:=decide_eq_true (by omega)
    have h1:(0:Int)<=((k + 1:Nat):Int) - 1:=by omega
    have hy':v[(((k + 1:Nat):Int) - 1).toNat]?=some y:=by rw [show (((k + 1:Nat):Int) - 1).toNat=k by omega]; exact hy
    by_cases hl:y < r
    ·have hq:decide (r<=y)=false:=decide_eq_false (by omega)
     repeat' (first|(simp only [cP,dC,hd,h0,h1,aA,hr,hy',aD,↓sZ,cK,hg,hq,↓wA,↓wC,wB,bW,reduceIte,reduceCtorEq])|(refine cJ (hc) rfl rfl ?_)|(refine cL (hc) rfl rfl ?_)|(refine cM (by simp only [dX]; omega) ?_)|((first|apply cH|apply cI|apply cG)<;>intro h<;>try simp only [h]))
     all_goals refine e7 (cV _ rfl ⟨⟨rfl,rfl⟩,⟨rfl,rfl⟩,⟨rfl,rfl⟩,⟨rfl,rfl⟩,trivial⟩) hlt ⟨hin',fun j hj=>?_⟩
     by_cases e:j=k
     ·subst e; rw [gy,gr]; exact hl
     ·exact hri j (by omega)
    ·have hq:decide (r<=y)=true:=decide_eq_true (by omega)
     have hres:(v.all (fun n=>c6 n a b) && mZ v)=false:=by
      have:mZ v=false:=by
       cases h:mZ v with
       | false=>rfl
       | true =>
        have:=(qQ v).1 h k hlt
        rw [gy,gr] at this; omega
      rw [this,Bool.and_false]
     repeat' (first|(simp only [cP,dC,hd,h0,h1,aA,hr,hy',aD,↓sZ,cK,hg,hq,↓wA,↓wC,wB,bW,reduceIte,reduceCtorEq])|(refine cJ (hc) rfl rfl ?_)|(refine cL (hc) rfl rfl ?_)|(refine cM (by simp only [dX]; omega) ?_)|((first|apply cH|apply cI|apply cG)<;>intro h<;>try simp only [h]))
     all_goals rw [hres]
 ·rintro ⟨hin,hri⟩ hd
  have hres:(v.all (fun n=>c6 n a b) && mZ v)=true:=by
   rw [aR]
   refine ⟨aZ.2 fun n hn=>?_,(qQ v).2 fun j hj=>hri j hj⟩
   obtain ⟨j,hj⟩:=List.getElem?_of_mem hn
   exact hin j n (cQ hj) hj
  simp only [cP,hd,↓wA,↓wC,wB,bW,reduceIte,reduceCtorEq]
  rw [hres]
structure Cs where
 i:Int
 a:Int
 d:Int
 h:List Int
def Cs.p (x:Cs) (dh:D):D:=.st (.cons (.int .i64 x.i) (.cons (.int .i64 x.a) (.cons (.int .i64 x.d) (.cons dh .nil))))
def Cs.s (x:Cs):D:=x.p (.sl false 1 (dl iD x.h))
def Cs.o (x:Cs):D:=x.p (.sl true 1 (dl iD x.h))
def Cs.ok0 (x:Cs):Prop:=x.h.length<=1048576
structure Off where
 day:Int
 cs:List Cs
 kept:Int
 moved:Int
 led:List (List UInt8)
def dQ (o:Off) (dc dd:D):D:=.st (.cons (.int .i64 o.day) (.cons dc (.cons (.int .i64 o.kept) (.cons (.int .i64 o.moved) (.cons dd .nil)))))
def Off.s (o:Off):D:=dQ o (.sl false 4 (dl Cs.s o.cs)) (.sl false 1 (dl D.str o.led))
def Off.o (o:Off):D:=dQ o (.sl true 4 (dl Cs.o o.cs)) (.sl true 1 (dl D.str o.led))
def aS8 (L:List (List UInt8)):Prop:=L.length<=1048576/\∀ s∈L,s.length<=1048576
def uZ (xs:List Cs):Prop:=xs.length<=1048576/\∀ x∈xs,x.ok0
def Off.ok0 (o:Off):Prop:=uZ o.cs/\aS8 o.led
theorem cZ (L:List (List UInt8)):(dl D.str L).noOwn=true:=oR (fun _=>rfl) L
theorem gD (L:List (List UInt8)):(dl D.str L).unown=dl D.str L:=rG (fun _=>rfl) L
theorem aFt (L:List (List UInt8)):(dl D.str L).allOwn=true:=mG (fun _=>rfl) L
theorem aYi (x:Cs):x.s.noOwn=true:=by simp [Cs.s,Cs.p,D.noOwn,dE]
theorem aX7 (x:Cs):x.s.unown=x.s:=by simp [Cs.s,Cs.p,D.unown,dS]
theorem aYm (x:Cs):x.o.unown=x.s:=by simp [Cs.o,Cs.s,Cs.p,D.unown,dS]
theorem aYo (x:Cs):x.o.allOwn=true:=by simp [Cs.o,Cs.p,D.allOwn,mG uK]
theorem Cs.o_noOwn (x:Cs):x.o.noOwn=false:=by simp [Cs.o,Cs.p,D.noOwn]
theorem aX3 (x:Cs):x.s.isV=true:=rfl
theorem aX6 (x:Cs):x.s.size=4:=rfl
theorem Cs.o_isV (x:Cs):x.o.isV=true:=rfl
theorem Cs.o_size (x:Cs):x.o.size=4:=rfl
theorem cY (xs:List Cs):(dl Cs.s xs).noOwn=true:=oR aYi xs
theorem fK (xs:List Cs):(dl Cs.s xs).unown=dl Cs.s xs:=rG aX7 xs
theorem pZ:∀ xs:List Cs,(dl Cs.o xs).unown=dl Cs.s xs
 | []=>rfl
 | x :: xs=>by
  have:=pZ xs
  simp only [dl,List.map_cons,i6,D.unown,aYm] at this ⊢
  rw [this]
theorem aN8 (xs:List Cs):(dl Cs.o xs).allOwn=true:=mG aYo xs
theorem aXW (o:Off):o.s.noOwn=true:=by simp [Off.s,dQ,D.noOwn,cY,cZ]
theorem aX1 (o:Off):o.s.unown=o.s:=by simp [Off.s,dQ,D.unown,fK,gD]
theorem aX5 (o:Off):o.o.unown=o.s:=by simp [Off.s,Off.o,dQ,D.unown,pZ,gD]
theorem aYj (o:Off):o.o.allOwn=true:=by simp [Off.o,dQ,D.allOwn,aN8,aFt]
theorem lQ {o:List Ob} {K:SV->Prop} {x:Cs}:eI o (some 4) x.s K=K (.d x.s):=by simp [Cs.s,Cs.p,eI,D.size,D.noOwn,dE]
theorem dL {o:List Ob} {K:SV->Prop} {x:Off}:eI o (some 5) x.s K=K (.d x.s):=by simp [Off.s,dQ,eI,D.size,D.noOwn,cY,cZ]
theorem fG {α:Type} {xs:List α} {i:Nat} {r:α} (hr:xs[i]?=some r):xs.take (i + 1)=xs.take i ++ [r]:=by
 have hi:=cQ hr
 rw [aF hi]
 rw [List.getElem?_eq_getElem hi] at hr
 injection hr with hr
 rw [hr]
theorem aN1 {P:PG} {f:FuncId} {ds:List D} {R S:List D->Prop} (h:Fn P f ds R) (hs:∀ rs,R rs->S rs):Fn P f ds S:=by
 intro M vs w h1 h2 h3
 refine (h M vs w h1 h2 h3).mono ?_
 rintro e w' ⟨rs,us,fp,e1,e2,e3⟩
 exact ⟨rs,us,fp,e1,hs rs e2,e3⟩
def aAT (l:List UInt8):List Bool:=(bV 256).map fun j=>l.contains (aL j)
def vD (l:List UInt8):D:=.st (dl D.bool (aAT l))
theorem aDj {w:World} {M:Nat->Prop}:∀ L:List Bool,(dl D.bool L).rep w M (L.map Value.bool) []
 | []=>⟨rfl,rfl⟩
 | b :: L=>⟨[.bool b],_,[],[],rfl,rfl,⟨rfl,rfl⟩,aDj L⟩
theorem aIt (l:List UInt8):(Lib.setCells l).toList=(aAT l).map Value.bool:=by
 rw [Lib.setCells_eq]
 simp [aAT,List.map_map,Function.comp_def]
theorem aOz (l:List UInt8) (x:UInt8):(aAT l)[x.toNat]?=some (l.contains x):=by
 have h:=x.toNat_lt
 simp only [aAT,List.getElem?_map,List.getElem?_range h,aD,bH]
theorem aIc (s:List UInt8) (h128:∀ b∈s,b.toNat < 128) (hl:s.length < 4000000000):Fn prog 201 [.str s] (fun rs=>rs=[vD s,.bool true]):=by
 intro M vs w hM hG hv
 obtain ⟨cs,us,f1,f2,rfl,e,⟨rfl,_⟩,rfl,rfl⟩:=hv
 refine (Go.Proofs.Tryz.strings_makeASCIISet (fun w=>by kernel_rfl) ⟨s.toArray⟩ w (by show s.toArray.size < _; simp; omega) ?_).mono ?_
 ·intro j b hb
  exact h128 b (aM (by simpa using hb))
 ·rintro e w' ⟨rfl,rfl⟩
  refine ⟨[vD s,.bool true],[.agg (Lib.setCells s),.bool true],[],rfl,rfl,⟨(Lib.setCells s).toList,[.bool true],[],[],rfl,rfl,?_,⟨[.bool true],[],[],[],rfl,rfl,⟨rfl,rfl⟩,rfl,rfl⟩⟩,List.nodup_nil,(by simp),iW w _⟩
  rw [aIt]
  exact aDj _
theorem aDL:∀ (L:List Bool) (n:Nat),n<=L.length->(dl D.bool L).pre n=n
 | _,0,_=>by cases ‹List Bool›<;>rfl
 | [],n + 1,h=>by simp at h
 | b :: L,n + 1,h=>by
  have:=aDL L n (by simpa using h)
  show 1 + (dl D.bool L).pre n=n + 1
  omega
theorem yS (l:List UInt8) (x:UInt8):Fn prog 222 [.ptr (vD l),.int .u8 (x.toNat:Int)] (fun rs=>rs=[.bool (l.contains x)]):=by
 have h256:=x.toNat_lt
 have hx:=aOz l x
 have hp:=aDL (aAT l) x.toNat (by simp [aAT]; omega)
 have hp':(dl D.bool (aAT l)).pre x.toNat=x.toNat * 1:=by omega
 refine cW aRM [] ?_
 dsimp only [aRM,aUp,rF,cS,cE,cR,c8]
 try simp only [wQ]
 simp only [vD]
 repeat' (first|(simp only [cK,aA,hp',dC,hx,aD,↓wA,↓wC,wB,bW,bX,reduceIte,reduceCtorEq])|(with_reducible refine cO ?_ ?_; focus omega)|((first|apply cH|apply cI|apply cG)<;>intro h<;>try simp only [h]))
def oI (l s:List UInt8):List UInt8:=s.dropWhile (fun b=>l.contains b)
def oS (l s:List UInt8):List UInt8:=(s.reverse.dropWhile (fun b=>l.contains b)).reverse
theorem aNi (l s:List UInt8) (hl:s.length<=1000000):Fn prog 202 [.str s,.ptr (vD l)] (fun rs=>rs=[.str (oI l s)]):=by
 refine cW aQI [] ?_
 dsimp only [aQI,aVR,rF,cS,cE,cR,c8]
 try simp only [wQ]
 repeat' (first|(simp only [cK,↓wA,↓wC,wB,bW,bX,reduceIte,reduceCtorEq])|((first|apply cH|apply cI|apply cG)<;>intro h<;>try simp only [h]))
 refine eK (fun t:List UInt8=>⟨[(0,.d (.str t)),(1,.d (.ptr (vD l)))],[]⟩) (fun t=>oI l t=oI l s/\t.length<=1000000) (fun t=>t.length) s (cV _ rfl ⟨⟨rfl,rfl⟩,⟨rfl,rfl⟩,trivial⟩) ⟨rfl,hl⟩ ?_
 rintro t ⟨h1,h2⟩
 cases t with
 | nil =>
  have hd:decide ((0:Int) < ((0:Nat):Int))=false:=rfl
  repeat' (first|(simp only [hd,↓wA,↓wC,wB,bW,reduceIte,reduceCtorEq])|((first|apply cH|apply cI|apply cG)<;>intro h<;>try simp only [h]))
  all_goals (rw [<- h1]; rfl)
 | cons b t =>
  have hd:decide ((0:Int) < ((t.length + 1:Nat):Int))=true:=decide_eq_true (by omega)
  have hC:=yS l b
  have h0:(b :: t)[(0:Int).toNat]?=some b:=rfl
  have hdr:(b :: t).drop (1:Int).toNat=t:=rfl
  simp only [aH] at h2
  cases hb:l.contains b with
  | true =>
   rw [hb] at hC
   have e:oI l (b :: t)=oI l t:=by unfold oI; rw [aJ,if_pos hb]
   repeat' (first|(simp only [hd,h0,hdr,↓wA,↓wC,wB,bW,reduceIte,reduceCtorEq])|(refine cJ (hC) rfl rfl ?_)|(refine cL (hC) rfl rfl ?_)|(with_reducible refine cO ?_ ?_; focus omega)|(with_reducible refine cO ?_ ?_; focus (simp; done))|((first|apply cH|apply cI|apply cG)<;>intro h<;>try simp only [h]))
   all_goals exact ⟨t,(cV _ rfl ⟨⟨rfl,rfl⟩,⟨rfl,rfl⟩,trivial⟩),⟨by rw [<- e]; exact h1,by omega⟩,by simp⟩
  | false =>
   rw [hb] at hC
   have e:oI l (b :: t)=b :: t:=by unfold oI; rw [aJ,if_neg (by rw [hb]; decide)]
   repeat' (first|(simp only [hd,h0,↓wA,↓wC,wB,bW,reduceIte,reduceCtorEq])|(refine cJ (hC) rfl rfl ?_)|(refine cL (hC) rfl rfl ?_)|(with_reducible refine cO ?_ ?_; focus omega)|((first|apply cH|apply cI|apply cG)<;>intro h<;>try simp only [h]))
   all_goals (rw [<- h1,e])
theorem aCu (l s:List UInt8) (b:UInt8):oS l (s ++ [b])=if l.contains b=true then oS l s else s ++ [b]:=by
 unfold oS
 rw [List.reverse_append,List.reverse_singleton,List.singleton_append,aJ]
 split
 ·rfl
 ·simp
theorem aLs (l s:List UInt8) (hl:s.length<=1000000):Fn prog 203 [.str s,.ptr (vD l)] (fun rs=>rs=[.str (oS l s)]):=by
 refine cW aRu [] ?_
 dsimp only [aRu,aU9,rF,cS,cE,cR,c8]
 try simp only [wQ]
 repeat' (first|(simp only [cK,↓wA,↓wC,wB,bW,bX,reduceIte,reduceCtorEq])|((first|apply cH|apply cI|apply cG)<;>intro h<;>try simp only [h]))
 refine eK (fun t:List UInt8=>⟨[(0,.d (.str t)),(1,.d (.ptr (vD l)))],[]⟩) (fun t=>oS l t=oS l s/\t.length<=1000000) (fun t=>t.length) s (cV _ rfl ⟨⟨rfl,rfl⟩,⟨rfl,rfl⟩,trivial⟩) ⟨rfl,hl⟩ ?_
 rintro t ⟨h1,h2⟩
 rcases bB t with rfl|⟨u,b,rfl⟩
 ·have hd:decide ((0:Int) < ((0:Nat):Int))=false:=rfl
  repeat' (first|(simp only [hd,↓wA,↓wC,wB,bW,reduceIte,reduceCtorEq])|((first|apply cH|apply cI|apply cG)<;>intro h<;>try simp only [h]))
  all_goals (rw [<- h1]; rfl)
 ·rw [bC] at *
  have hlen:(u ++ [b]).length=u.length + 1:=by simp
  rw [hlen] at h2
  have hd:decide ((0:Int) < ((u.length + 1:Nat):Int))=true:=decide_eq_true (by omega)
  have hC:=yS l b
  have hn:(((u.length + 1:Nat):Int) - 1).toNat=u.length:=by omega
  have h0:(u ++ [b])[u.length]?=some b:=by simp
  have htk:(u ++ [b]).take u.length=u:=by simp
  have e:=aCu l u b
  cases hb:l.contains b with
  | true =>
   rw [hb] at hC
   rw [if_pos hb] at e
   repeat' (first|(simp only [hlen,hd,hn,h0,htk,↓wA,↓wC,wB,bW,reduceIte,reduceCtorEq])|(refine cJ (hC) rfl rfl ?_)|(refine cL (hC) rfl rfl ?_)|(with_reducible refine cM ?_ ?_; focus (simp only [dX]; omega))|(with_reducible refine cO ?_ ?_; focus omega)|((first|apply cH|apply cI|apply cG)<;>intro h<;>try simp only [h]))
   all_goals exact ⟨u,(cV _ rfl ⟨⟨rfl,rfl⟩,⟨rfl,rfl⟩,trivial⟩),⟨by rw [<- e]; exact h1,by omega⟩,by simp⟩
  | false =>
   rw [hb] at hC
   rw [if_neg (by rw [hb]; decide)] at e
   repeat' (first|(simp only [hlen,hd,hn,h0,↓wA,↓wC,wB,bW,reduceIte,reduceCtorEq])|(refine cJ (hC) rfl rfl ?_)|(refine cL (hC) rfl rfl ?_)|(with_reducible refine cM ?_ ?_; focus (simp only [dX]; omega))|(with_reducible refine cO ?_ ?_; focus omega)|((first|apply cH|apply cI|apply cG)<;>intro h<;>try simp only [h]))
   all_goals (rw [<- h1,e])
def gX:List UInt8:=[97,98,99,100,101,102,103,104,105,106,107,108,109,110,111,112,113,114,115,116,117,118,119,120,121,122,48,49,50,51,52,53,54,55,56,57,32,45]
def eB (b:UInt8):Bool:=c6 (b.toNat:Int) 97 122 || c6 (b.toNat:Int) 48 57 || decide ((b.toNat:Int)=32) || decide ((b.toNat:Int)=45)
theorem aR6 (b:UInt8):gX.contains b=eB b:=by
 have h:∀ n,n < 256->gX.contains (aL n)=eB (aL n):=by decide
 have:=h b.toNat b.toNat_lt
 rwa [bH] at this
theorem pR {p:UInt8->Bool}:∀ (s:List UInt8),s.dropWhile p=[]↔s.all p=true
 | []=>by simp
 | b :: s=>by
  rw [aJ]
  cases hb:p b with
  | true=>simp [hb,pR s]
  | false=>simp [hb]
theorem aLb (l:List UInt8):∀ (n:Nat) (s:List UInt8),s.length=n->(oI l (oS l s)=[]↔s.all (fun b=>l.contains b)=true):=by
 intro n
 induction n with
 | zero =>
  intro s hs
  obtain rfl:=List.eq_nil_of_length_eq_zero hs
  simp [oI,oS]
 | succ n IH =>
 intro s hs
 unfold oI
 rw [pR]
 rcases bB s with rfl|⟨u,b,rfl⟩
 ·simp [oS]
 ·rw [bC,aCu]
  split
  ·rename_i hb
   have ih:=IH u (by simpa using hs)
   unfold oI at ih
   rw [pR] at ih
   rw [ih,bJ]
   simp only [bT,List.all_nil,hb,bR]
  ·rfl
theorem aLq (l s:List UInt8):oI l (oS l s)=[]↔s.all (fun b=>l.contains b)=true:=aLb l _ s rfl
def jQ (s:List UInt8):Bool:=c6 s.length 1 40 && s.all eB
def aTe:D:=.st (i6 (bQ 256 (D.bool false)))
theorem aH9 (l:List UInt8):(vD l).noOwn=true:=oR (f:=D.bool) (fun _=>rfl) (aAT l)
theorem aIu (l:List UInt8):(vD l).unown=vD l:=by
 show D.st (dl D.bool (aAT l)).unown=_
 rw [rG (fun _=>rfl)]; rfl
theorem aBC:∀ L:List Bool,(dl D.bool L).size=L.length
 | []=>rfl
 | b :: L=>by
  have:=aBC L
  show 1 + (dl D.bool L).size=L.length + 1
  omega
theorem aKI (l:List UInt8):(vD l).size=256:=by
 show (dl D.bool (aAT l)).size=256
 rw [aBC]; simp [aAT]
theorem aPJ (s:List UInt8) (h0:0 < s.length) (hl:s.length<=1000):Fn prog 173 [.str s,.str gX] (fun rs=>rs=[.str (oI gX (oS gX s))]):=by
 have hM:=aIc gX (by decide) (by decide)
 have hR:=aLs gX s (by omega)
 have hrl:(oS gX s).length<=s.length:=by
  unfold oS
  have:=(a8 (p:=fun b=>gX.contains b) (l:=s.reverse)).length_le
  simpa using this
 have hL:=aNi gX (oS gX s) (by omega)
 have d1:decide (s=[])=false:=decide_eq_false (fun h=>by rw [h] at h0; simp at h0)
 have d2:decide (gX=[])=false:=rfl
 have d3:decide ((gX.length:Int)=1)=false:=rfl
 have n1:(vD gX).noOwn=true:=aH9 _
 have n2:(vD gX).isV=true:=rfl
 have n3:=aKI gX
 have n4:(vD gX).unown=vD gX:=aIu _
 have hz:D.st (i6 (bQ 256 (D.bool false)))=aTe:=rfl
 have n5:aTe.size=256:=rfl
 refine cW aRx [[1,1,1,0,1,1,0,0]] ?_
 dsimp only [aRx,aTP,rF,cS,cE,cR,c8]
 try simp only [wQ]
 rw [hz]
 generalize aTe=Z at n5
 repeat' (first|(simp only [cK,d1,d2,d3,n1,n2,n3,n5,↓wA,↓wC,wB,bW,bX,reduceIte,reduceCtorEq])|(refine cJ (hM) rfl rfl ?_)|(refine cL (hM) rfl rfl ?_)|((first|apply cH|apply cI|apply cG)<;>intro h<;>try simp only [h]))
 refine dB (gJ 0 rfl) ?_
 repeat' (first|(simp only [n4,↓wA,↓wC,wB,cU,cT,bW,reduceIte,reduceCtorEq])|(refine cJ (hR) rfl rfl ?_)|(refine cL (hR) rfl rfl ?_)|(refine cJ (hL) rfl rfl ?_)|(refine cL (hL) rfl rfl ?_)|((first|apply cH|apply cI|apply cG)<;>intro h<;>try simp only [h]))
 all_goals trace_state
end Go.Pe.Tryz
