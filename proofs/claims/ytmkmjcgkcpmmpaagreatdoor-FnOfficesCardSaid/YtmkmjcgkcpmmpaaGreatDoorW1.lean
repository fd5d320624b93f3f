/- What draws: a cursor over bytes; What draws: a number below a bound; What draws: once in n times; one of some numbers; Appeals among the laws' helpers: sizes, copies, equality; walked; Lists of appeals among the laws' helpers: sizes and copies; walked; Copies of lists of appeals, walked; Small tests of appeals, walked; Rising lists, walked; Is an appeal valid? walked; Valid appeals, walked; Valid lists of appeals, walked; Offices among the laws' helpers: sizes, copies, equality; walked; Entries of a ledger: strings.Trim, walked; what an entry is; Valid offices, walked; Is it an office? walked, and the law; The cases of an office of which something is so; those that are due, blocked, held; walked; The cases of an office with a hold: the reference, walked; the law of HeldCases; Valid lists of appeals, walked; Valid lists of appeals as the reference has them, walked; The law of AreAppeals, joined; Greatest common divisors and shares in lowest terms, walked; The place of an appeal; how many days it has left, walked; Marks on lists of numbers, walked; Marks on lists of appeals, walked; Marks on appeals, read again; copies of one's own, walked; Copies of appeals as the program makes them, walked; A decided appeal, walked; Copies of appeals and a decided appeal as the reference has them, walked; Sorting of a few numbers, walked; slices.Delete at cases and at numbers: walked over raw memory; its contract -/
import Derived.Test.YtmkmjcgkcpmmpaaGreatDoorPeD
import Derived.Test.YtmkmjcgkcpmmpaaGreatDoorMc1
import Derived.Test.YtmkmjcgkcpmmpaaGreatDoorMc2
import Derived.Test.YtmkmjcgkcpmmpaaGreatDoorMc3
import Derived.Test.YtmkmjcgkcpmmpaaGreatDoorMc4
import Derived.Test.YtmkmjcgkcpmmpaaGreatDoorMc5
import Derived.Test.YtmkmjcgkcpmmpaaGreatDoorShelf
import Derived.Lib.AsciiSet
import Derived.Shelf.RegionOpenPlain
import Derived.WalkKit
import Derived.Deep.RegionLaw
import Derived.Lib.Walk
import Derived.Lib.SliceRun
set_option maxRecDepth 100000
set_option maxHeartbeats 4000000
set_option linter.all false
namespace Go.Pe.Tryz
open Nat (reduceEqDiff reduceAdd reduceSub reduceLT)
open Go.Proofs.Tryz
theorem eS:∀ bs:List UInt8,(bH bs).noOwn=true
 | []=>rfl
 | b :: bs=>by simp [bH,D.noOwn,eS bs]
theorem sN:∀ (bs:List UInt8) (i:Nat),(bH bs).nth i=(bs[i]?).map fun b=>D.int .u8 (b.toNat:Int)
 | [],i=>by cases i<;>rfl
 | b :: bs,0=>rfl
 | b :: bs,i + 1=>by simp [bH,D.nth,sN bs i]
theorem oE:∀ bs:List UInt8,(bH bs).unown=bH bs
 | []=>rfl
 | b :: bs=>by simp [bH,D.unown,oE bs]
theorem aEO (x:Int):0<=bits .and .u64 x 255/\bits .and .u64 x 255<=255:=by
 unfold bits
 have h:(BitVec.ofInt (IntKind.bits .u64) x &&& BitVec.ofInt (IntKind.bits .u64) 255).toNat<=255:=by
  rw [BitVec.toNat_and]; exact Nat.le_trans Nat.and_le_right (by decide)
 simp only []
 generalize (BitVec.ofInt (IntKind.bits .u64) x &&& BitVec.ofInt (IntKind.bits .u64) 255).toNat=m at h
 have:IntKind.wrap .u64 (m:Int)=m:=by
  simp [IntKind.wrap,IntKind.bits,IntKind.signed]; omega
 rw [this]; omega
def tH (code:List UInt8) (k:Nat) (seed:Int):D:=.st (.cons (.sl false 1 (bH code)) (.cons (.int .i64 k) (.cons (.int .u64 seed) .nil)))
theorem v8 (code:List UInt8) (k:Nat) (seed:Int) (hc:code.length<=1048576) (hk:k<=1000000000000):sO prog 88 true (tH code k seed) []
  (fun x' rs=>∃ (n:Int) (seed':Int),x'=tH code (k + 1) seed'/\rs=[.int .i64 n]/\0<=n/\n < 256):=by
 have h0:(0:Int)<=(k:Int):=by omega
 refine fK (fn:=f88) (by exact func88) c88 r88 (n:=62) (by rfl) (rv:=[.tmp 2]) (by rfl) (by decide) (by simp) ?_
 unfold m88
 try simp only [wQ]
 simp only [tH]
 by_cases hlt:k < code.length
 ·obtain ⟨b,hb⟩:=bM hlt
  have hbl:(b.toNat:Int) < 256:=by have:=b.toNat_lt; omega
  have hd:decide ((k:Int) < (code.length:Int))=true:=decide_eq_true (by omega)
  have hd2:decide ((k:Int) + 1<=(code.length:Int))=true:=decide_eq_true (by omega)
  repeat' (first|(simp only [e7,eS,sN,hd,hd2,h0,hb,Int.toNat_natCast,aD,↓wA,↓wC,wB,aF,aE,reduceEqDiff,reduceAdd,reduceSub,reduceIte,reduceCtorEq,Nat.reduceBEq,reduceLT])|(refine aI (by simp only [bQ]; omega) ?_)|(refine rC ?_)|((first|apply aB|apply aC|apply aA)<;>intro h<;>try simp only [h]))
  exact ⟨_,_,rfl,rfl,by omega,hbl⟩
 ·have hd:decide ((k:Int) < (code.length:Int))=false:=decide_eq_false (by omega)
  have hd2:decide ((k:Int) + 1<=(code.length:Int))=false:=decide_eq_false (by omega)
  repeat' (first|(simp only [e7,eS,hd,hd2,h0,aD,↓wA,↓wC,wB,aF,aE,reduceEqDiff,reduceAdd,reduceSub,reduceIte,reduceCtorEq,Nat.reduceBEq,reduceLT])|(with_reducible refine aI ?_ ?_; focus (simp only [bQ]; omega))|(with_reducible refine aQ ?_ ?_; focus omega)|(with_reducible refine rC (k:=.u64) ?_)|((first|apply aB|apply aC|apply aA)<;>intro h<;>try simp only [h]))
  generalize hX:(Int.fdiv _ _:Int)=X
  have h255:=aEO X
  refine aI (by simp only [bQ]; omega) ?_
  simp only [↓wA,↓wC,wB,aF,aE,reduceEqDiff,reduceAdd,reduceSub,reduceIte,reduceCtorEq,Nat.reduceBEq,reduceLT]
  exact ⟨_,_,rfl,rfl,h255.1,by omega⟩
end Go.Pe.Tryz
set_option maxRecDepth 100000
set_option maxHeartbeats 4000000
set_option linter.all false
namespace Go.Pe.Tryz
open Nat (reduceEqDiff reduceAdd reduceSub reduceLT)
open Go.Proofs.Tryz
theorem aHU (code:List UInt8) (k:Nat) (seed n:Int) (hc:code.length<=1048576) (hk:k<=999999999990):sO prog 50 true (tH code k seed) [.int .i64 n]
  (fun x' rs=>∃ (m:Int) (k':Nat) (seed':Int),x'=tH code k' seed'/\rs=[.int .i64 m]/\k<=k'/\k'<=k + 2/\0<=m/\(m < n\/m=0)):=by
 cases h1:decide (n<=1) with
 | true =>
  refine fK (fn:=f50) (by exact func50) c50 r50 (n:=20) (by rfl) (rv:=[.tmp 4]) (by rfl) (by decide) (by simp) ?_
  unfold m50
  try simp only [wQ]
  repeat' (first|(simp only [h1,↓wA,↓wC,wB,aF,aE,reduceEqDiff,reduceAdd,reduceSub,reduceIte,reduceCtorEq,Nat.reduceBEq,reduceLT])|((first|apply aB|apply aC|apply aA)<;>intro h<;>try simp only [h]))
  exact ⟨0,k,seed,rfl,rfl,by omega,by omega,by omega,.inr rfl⟩
 | false =>
  have h1':=of_decide_eq_false h1
  have hn0:n≠0:=by omega
  cases h2:decide (200 < n) with
  | false =>
   refine fK (fn:=f50) (by exact func50) c50 r50 (n:=20) (by rfl) (rv:=[.tmp 4]) (by rfl) (by decide) (by simp) ?_
   unfold m50
   try simp only [wQ]
   repeat' (first|(simp only [h1,h2,↓wA,↓wC,wB,aF,aE,reduceEqDiff,reduceAdd,reduceSub,reduceIte,reduceCtorEq,Nat.reduceBEq,reduceLT])|((first|apply aB|apply aC|apply aA)<;>intro h<;>try simp only [h]))
   refine cR (v8 code k seed hc (by omega)) rfl rfl rfl ?_
   rintro _ _ ⟨a,s1,rfl,rfl,ha0,ha1⟩
   have t0:0<=a.tmod n:=Int.tmod_nonneg _ ha0
   have t1:a.tmod n < n:=Int.tmod_lt_of_pos _ (by omega)
   repeat' (first|(simp only [h1,h2,↓wA,↓wC,wB,aF,aE,reduceEqDiff,reduceAdd,reduceSub,reduceIte,reduceCtorEq,Nat.reduceBEq,reduceLT])|(with_reducible refine aQ hn0 ?_)|(with_reducible refine aI ?_ ?_; focus (simp only [bQ]; omega))|((first|apply aB|apply aC|apply aA)<;>intro h<;>try simp only [h]))
   exact ⟨_,k + 1,s1,rfl,rfl,by omega,by omega,t0,.inl t1⟩
  | true =>
   refine fK (fn:=f50) (by exact func50) c50 r50 (n:=20) (by rfl) (rv:=[.tmp 4]) (by rfl) (by decide) (by simp) ?_
   unfold m50
   try simp only [wQ]
   repeat' (first|(simp only [h1,h2,↓wA,↓wC,wB,aF,aE,reduceEqDiff,reduceAdd,reduceSub,reduceIte,reduceCtorEq,Nat.reduceBEq,reduceLT])|((first|apply aB|apply aC|apply aA)<;>intro h<;>try simp only [h]))
   refine cR (v8 code k seed hc (by omega)) rfl rfl rfl ?_
   rintro _ _ ⟨a,s1,rfl,rfl,ha0,ha1⟩
   repeat' (first|(simp only [h1,h2,↓wA,↓wC,wB,aF,aE,reduceEqDiff,reduceAdd,reduceSub,reduceIte,reduceCtorEq,Nat.reduceBEq,reduceLT])|(with_reducible refine aI ?_ ?_; focus (simp only [bQ]; omega))|((first|apply aB|apply aC|apply aA)<;>intro h<;>try simp only [h]))
   refine cR (v8 code (k + 1) s1 hc (by omega)) rfl rfl rfl ?_
   rintro _ _ ⟨b,s2,rfl,rfl,hb0,hb1⟩
   have t0:0<=(a * 256 + b).tmod n:=Int.tmod_nonneg _ (by omega)
   have t1:(a * 256 + b).tmod n < n:=Int.tmod_lt_of_pos _ (by omega)
   repeat' (first|(simp only [h1,h2,↓wA,↓wC,wB,aF,aE,reduceEqDiff,reduceAdd,reduceSub,reduceIte,reduceCtorEq,Nat.reduceBEq,reduceLT])|(with_reducible refine aQ hn0 ?_)|(with_reducible refine aI ?_ ?_; focus (simp only [bQ]; omega))|((first|apply aB|apply aC|apply aA)<;>intro h<;>try simp only [h]))
   exact ⟨_,k + 1 + 1,s2,rfl,rfl,by omega,by omega,t0,.inl t1⟩
end Go.Pe.Tryz
set_option maxRecDepth 100000
set_option maxHeartbeats 4000000
set_option linter.all false
namespace Go.Pe.Tryz
open Nat (reduceEqDiff reduceAdd reduceSub reduceLT)
open Go.Proofs.Tryz
theorem aEX (code:List UInt8) (k:Nat) (seed:Int) (v:List Int) (hc:code.length<=1048576) (hk:k<=999999999990) (hv:0 < v.length) (hl:v.length<=1048576):sO prog 56 true (tH code k seed) [.sl false 1 (dl iD v)]
  (fun x' rs=>∃ (m:Int) (k':Nat) (seed':Int),x'=tH code k' seed'/\rs=[.int .i64 m]/\k<=k'/\k'<=k + 2/\m∈v):=by
 refine fK (fn:=f56) (by exact func56) c56 r56 (n:=12) (by rfl) (rv:=[.tmp 4]) (by rfl) (by decide) (by simp) ?_
 unfold m56
 try simp only [wQ]
 try simp only [aJ,↓wA,↓wC,wB,aF,aE,reduceEqDiff,reduceAdd,reduceSub,reduceIte,reduceCtorEq,Nat.reduceBEq,reduceLT]
 refine cR (aHU code k seed v.length hc hk) rfl rfl rfl ?_
 rintro _ _ ⟨m,k',s',rfl,rfl,h1,h2,h3,h4⟩
 obtain ⟨y,hy⟩:=bM (show m.toNat < v.length by omega)
 repeat' (first|(simp only [aJ,aX,h3,hy,Option.map_some,aD,iM,↓wA,↓wC,wB,aF,aE,reduceEqDiff,reduceAdd,reduceSub,reduceIte,reduceCtorEq,Nat.reduceBEq,reduceLT])|((first|apply aB|apply aC|apply aA)<;>intro h<;>try simp only [h]))
 exact ⟨y,k',s',rfl,rfl,h1,h2,List.mem_of_getElem? hy⟩
end Go.Pe.Tryz
set_option maxRecDepth 100000
set_option maxHeartbeats 4000000
set_option linter.all false
namespace Go.Pe.Tryz
open Nat (reduceEqDiff reduceAdd reduceSub reduceLT)
open Go.Proofs.Tryz
structure App where
 i:Int
 q:Int
 d:Int
 a:List Int
 h:List Int
 s:Int
def App.d' (x:App):D:=.st (.cons (.int .i64 x.i) (.cons (.int .i64 x.q) (.cons (.int .i64 x.d) (.cons (.sl false 1 (dl iD x.a)) (.cons (.sl false 1 (dl iD x.h)) (.cons (.int .i64 x.s) .nil))))))
def App.ok0 (x:App):Prop:=x.a.length<=1048576/\x.h.length<=1048576
theorem aS (v:List Int):(dl iD v).noOwn=true:=nW aFx v
theorem cH (v:List Int):(dl iD v).unown=dl iD v:=qZ aFb v
theorem App.noOwn (x:App):x.d'.noOwn=true:=by simp [App.d',D.noOwn,aS]
theorem App.unown (x:App):x.d'.unown=x.d':=by simp [App.d',D.unown,cH]
end Go.Pe.Tryz
set_option maxRecDepth 100000
set_option maxHeartbeats 4000000
set_option linter.all false
namespace Go.Pe.Tryz
open Nat (reduceEqDiff reduceAdd reduceSub reduceLT)
open Go.Proofs.Tryz
theorem aC6 {α:Type} {xs:List α} {i:Nat} {a:α} (h:xs[i]?=some a):xs.drop i=a :: xs.drop (i + 1):=by
 have hi:=aK h
 rw [List.drop_eq_getElem_cons hi]
 rw [List.getElem?_eq_getElem hi] at h
 injection h with h
 rw [h]
end Go.Pe.Tryz
set_option maxRecDepth 100000
set_option maxHeartbeats 4000000
set_option linter.all false
namespace Go.Pe.Tryz
open Nat (reduceEqDiff reduceAdd reduceSub reduceLT)
open Go.Proofs.Tryz
end Go.Pe.Tryz
set_option maxRecDepth 100000
set_option maxHeartbeats 4000000
set_option linter.all false
namespace Go.Pe.Tryz
open Nat (reduceEqDiff reduceAdd reduceSub reduceLT)
open Go.Proofs.Tryz
def aU (n a b:Int):Bool:=decide (a<=n) && decide (n<=b)
theorem dB (n a b:Int):Fn prog 37 [.int .i64 n,.int .i64 a,.int .i64 b] (fun rs=>rs=[.bool (aU n a b)]):=by
 refine a8 (fn:=f37) (by exact func37) c37 r37 (n:=15) (by rfl) (rv:=[.tmp 6]) (by rfl) (by simp) ?_
 unfold m37
 try simp only [wQ]
 simp only [↓wA,↓wC,wB,aF,aE,reduceEqDiff,reduceAdd,reduceSub,reduceIte,reduceCtorEq,Nat.reduceBEq,reduceLT]
 refine aB (fun h=>?_) (fun h=>?_)<;>simp only [h,↓wA,↓wC,wB,aF,aE,reduceEqDiff,reduceAdd,reduceSub,reduceIte,reduceCtorEq,Nat.reduceBEq,reduceLT]
 all_goals simp [aU,h]
theorem gT (n a b:Int):Fn prog 60 [.int .i64 n,.int .i64 a,.int .i64 b] (fun rs=>rs=[.bool (aU n a b)]):=by
 refine a8 (fn:=f60) (by exact func60) c60 r60 (n:=15) (by rfl) (rv:=[.tmp 6]) (by rfl) (by simp) ?_
 unfold m60
 try simp only [wQ]
 simp only [↓wA,↓wC,wB,aF,aE,reduceEqDiff,reduceAdd,reduceSub,reduceIte,reduceCtorEq,Nat.reduceBEq,reduceLT]
 refine aB (fun h=>?_) (fun h=>?_)<;>simp only [h,↓wA,↓wC,wB,aF,aE,reduceEqDiff,reduceAdd,reduceSub,reduceIte,reduceCtorEq,Nat.reduceBEq,reduceLT]
 all_goals simp [aU,h]
theorem aAo (n:Int):Fn prog 44 [.int .i64 n] (fun rs=>rs=[.bool (aU n 0 20000)]):=by
 refine a8 (fn:=f44) (by exact func44) c44 r44 (n:=5) (by rfl) (rv:=[.tmp 2]) (by rfl) (by simp) ?_
 unfold m44
 try simp only [wQ]
 repeat' (first|(simp only [↓wA,↓wC,wB,aF,aE,reduceEqDiff,reduceAdd,reduceSub,reduceIte,reduceCtorEq,Nat.reduceBEq,reduceLT])|(refine aG (dB _ _ _) rfl rfl ?_)|(refine aH (dB _ _ _) rfl rfl ?_)|((first|apply aB|apply aC|apply aA)<;>intro h<;>try simp only [h]))
theorem qV (n:Int):Fn prog 54 [.int .i64 n] (fun rs=>rs=[.bool (aU n 0 20000)]):=by
 refine a8 (fn:=f54) (by exact func54) c54 r54 (n:=5) (by rfl) (rv:=[.tmp 2]) (by rfl) (by simp) ?_
 unfold m54
 try simp only [wQ]
 repeat' (first|(simp only [↓wA,↓wC,wB,aF,aE,reduceEqDiff,reduceAdd,reduceSub,reduceIte,reduceCtorEq,Nat.reduceBEq,reduceLT])|(refine aG (gT _ _ _) rfl rfl ?_)|(refine aH (gT _ _ _) rfl rfl ?_)|((first|apply aB|apply aC|apply aA)<;>intro h<;>try simp only [h]))
theorem aEs (v:List Int) (n:Int) (hlen:v.length<=1048576):Fn prog 61 [.sl false 1 (dl iD v),.int .i64 n] (fun rs=>rs=[.bool (v.contains n)]):=by
 refine a8 (fn:=f61) (by exact func61) c61 r61 (n:=18) (by rfl) (rv:=[.tmp 4]) (by rfl) (by simp) ?_
 unfold m61
 try simp only [wQ]
 simp only [↓wA,↓wC,wB,aF,aE,reduceEqDiff,reduceAdd,reduceSub,reduceIte,reduceCtorEq,Nat.reduceBEq,reduceLT]
 refine cZ (fun i:Nat=>⟨[(0,.d (.sl false 1 (dl iD v))),(1,.d (.int .i64 n)),(5,.d (.int .i64 i))],[]⟩)
  (fun i=>i<=v.length/\n ∉ v.take i) (fun i=>v.length - i) 0 (aN [] rfl ⟨⟨rfl,rfl⟩,⟨rfl,rfl⟩,⟨rfl,rfl⟩,trivial⟩) ⟨Nat.zero_le _,by simp⟩ ?_
 rintro i ⟨hi,hp⟩
 by_cases hlt:i < v.length
 ·obtain ⟨r,hr⟩:=bM hlt
  have hd:decide ((i:Int) < (v.length:Int))=true:=decide_eq_true (by omega)
  have h0:(0:Int)<=(i:Int):=by omega
  by_cases hc:r=n
  ·have hm:v.contains n=true:=by rw [List.contains_iff_mem]; rw [<- hc]; exact List.mem_of_getElem? hr
   have hdc:decide (r=n)=true:=decide_eq_true hc
   simp only [aJ,aX,hd,h0,hr,Option.map_some,Int.toNat_natCast,aD,iD,hdc,hm,↓wA,↓wC,wB,aF,aE,reduceEqDiff,reduceAdd,reduceSub,reduceIte,reduceCtorEq,Nat.reduceBEq,reduceLT]
  ·have hdc:decide (r=n)=false:=decide_eq_false hc
   simp only [aJ,aX,hd,h0,hr,Option.map_some,Int.toNat_natCast,aD,iD,hdc,↓wA,↓wC,wB,aF,aE,reduceEqDiff,reduceAdd,reduceSub,reduceIte,reduceCtorEq,Nat.reduceBEq,reduceLT]
   refine aI (by simp only [bQ]; omega) ?_
   refine ⟨i + 1,aN [] rfl ⟨⟨rfl,rfl⟩,⟨rfl,rfl⟩,⟨rfl,rfl⟩,trivial⟩,⟨by omega,?_⟩,by omega⟩
   have hi:=aK hr
   rw [List.take_succ_eq_append_getElem hi]
   have:v[i]=r:=by rw [List.getElem?_eq_getElem hi] at hr; injection hr
   rw [this]
   simp only [List.mem_append,List.mem_singleton,not_or]
   exact ⟨hp,fun h=>hc h.symm⟩
 ·have hd:decide ((i:Int) < (v.length:Int))=false:=decide_eq_false (by omega)
  simp only [aJ,hd,↓wA,↓wC,wB,aF,aE,reduceEqDiff,reduceAdd,reduceSub,reduceIte,reduceCtorEq,Nat.reduceBEq,reduceLT]
  rw [List.take_of_length_le (by omega)] at hp
  have:v.contains n=false:=by
   cases h:v.contains n with
   | false=>rfl
   | true=>exact absurd (List.contains_iff_mem.1 h) hp
  rw [this]
end Go.Pe.Tryz
set_option maxRecDepth 100000
set_option maxHeartbeats 4000000
set_option linter.all false
namespace Go.Pe.Tryz
open Nat (reduceEqDiff reduceAdd reduceSub reduceLT)
open Go.Proofs.Tryz
def jM (v:List Int):Bool:=(List.range (v.length - 1)).all fun j=>decide (v.getD j 0 < v.getD (j + 1) 0)
theorem lW (v:List Int):jM v=true↔∀ j,j + 1 < v.length->v.getD j 0 < v.getD (j + 1) 0:=by
 simp only [jM,List.all_eq_true,List.mem_range,decide_eq_true_eq]
 exact ⟨fun h j hj=>h j (by omega),fun h j hj=>h j (by omega)⟩
theorem yR (v:List Int) (hlen:v.length<=1048576):Fn prog 85 [.sl false 1 (dl iD v)] (fun rs=>rs=[.bool (jM v)]):=by
 refine a8 (fn:=f85) (by exact func85) c85 r85 (n:=20) (by rfl) (rv:=[.tmp 2]) (by rfl) (by simp) ?_
 unfold m85
 try simp only [wQ]
 simp only [↓wA,↓wC,wB,aF,aE,reduceEqDiff,reduceAdd,reduceSub,reduceIte,reduceCtorEq,Nat.reduceBEq,reduceLT]
 refine cZ (fun i:Nat=>⟨[(0,.d (.sl false 1 (dl iD v))),(3,.d (.int .i64 (i + 1:Nat)))],[]⟩)
  (fun i=>i<=v.length/\∀ j,j + 1 < i + 1->j + 1 < v.length->v.getD j 0 < v.getD (j + 1) 0) (fun i=>v.length - i) 0 (aN [] rfl ⟨⟨rfl,rfl⟩,⟨rfl,rfl⟩,trivial⟩) ⟨Nat.zero_le _,fun j h=>by omega⟩ ?_
 rintro i ⟨hi,hp⟩
 by_cases hlt:i + 1 < v.length
 ·obtain ⟨a,ha⟩:=bM (show i < v.length by omega)
  obtain ⟨b,hb⟩:=bM hlt
  have hd:decide (((i + 1:Nat):Int) < (v.length:Int))=true:=decide_eq_true (by omega)
  have h0:(0:Int)<=((i + 1:Nat):Int):=by omega
  have h1:(0:Int)<=((i + 1:Nat):Int) - 1:=by omega
  have ha':v[(((i + 1:Nat):Int) - 1).toNat]?=some a:=by rw [show (((i + 1:Nat):Int) - 1).toNat=i by omega]; exact ha
  have ga:v.getD i 0=a:=by simp [List.getD,ha]
  have gb:v.getD (i + 1) 0=b:=by simp [List.getD,hb]
  repeat' (first|(simp only [aJ,aX,hd,h0,h1,ha',hb,Int.toNat_natCast,Option.map_some,aD,iD,↓wA,↓wC,wB,aF,aE,reduceEqDiff,reduceAdd,reduceSub,reduceIte,reduceCtorEq,Nat.reduceBEq,reduceLT])|(refine aI (by simp only [bQ]; omega) ?_)|((first|apply aB|apply aC|apply aA)<;>intro h<;>try simp only [h]))
  ·have hr:jM v=false:=by
    cases hr:jM v with
    | false=>rfl
    | true =>
     have:=(lW v).1 hr i hlt
     rw [ga,gb] at this
     simp at h; omega
   rw [hr]
  ·refine ⟨i + 1,aN [] rfl ⟨⟨rfl,rfl⟩,⟨rfl,rfl⟩,trivial⟩,⟨by omega,fun j hj hj2=>?_⟩,by omega⟩
   by_cases e:j=i
   ·subst e
    rw [ga,gb]
    simp at h; omega
   ·exact hp j (by omega) hj2
 ·have hd:decide (((i + 1:Nat):Int) < (v.length:Int))=false:=decide_eq_false (by omega)
  have hr:jM v=true:=(lW v).2 fun j hj=>hp j (by omega) hj
  simp only [aJ,hd,↓wA,↓wC,wB,aF,aE,reduceEqDiff,reduceAdd,reduceSub,reduceIte,reduceCtorEq,Nat.reduceBEq,reduceLT]
  rw [hr]
end Go.Pe.Tryz
set_option maxRecDepth 100000
set_option maxHeartbeats 4000000
set_option linter.all false
namespace Go.Pe.Tryz
open Nat (reduceEqDiff reduceAdd reduceSub reduceLT)
open Go.Proofs.Tryz
theorem wX (p:Int->Bool) (g:Nat) (c:D) (xs:List Int) (hc:c.caps=true) (he:dE prog.P g=true) (hlen:xs.length<=1048576) (hp:∀ x∈xs,Fn prog g (iD x :: c.list) (fun rs=>rs=[.bool (p x)])) :
  Fn prog 109 [.sl false 1 (dl iD xs),.clo g c] (fun rs=>rs=[.int .i64 (fT p xs)]):=by
 refine a8 (fn:=f109) (by exact func109) aMr aMP (n:=19) (by rfl) (rv:=[.tmp 4]) (by rfl) (by simp) ?_
 unfold aLq
 try simp only [wQ]
 simp only [aJ,↓wA,↓wC,wB,aF,aE,reduceEqDiff,reduceAdd,reduceSub,reduceIte,reduceCtorEq,Nat.reduceBEq,reduceLT]
 refine bL xs.length (fun i:Nat=>⟨[(0,.d (.sl false 1 (dl iD xs))),(1,.d (.clo g c)),(7,.d (.int .i64 xs.length)),(8,.d (.int .i64 i))],[]⟩) (fun i=>∀ j r,j < i->xs[j]?=some r->p r=false) (aN _ rfl ⟨⟨rfl,rfl⟩,⟨rfl,rfl⟩,⟨rfl,rfl⟩,⟨rfl,rfl⟩,trivial⟩) (fun j r hj=>by omega) ?_ ?_
 ·intro i hlt hinv hd h0
  obtain ⟨r,hr⟩:=bM hlt
  have hcl:=hp r (List.mem_of_getElem? hr)
  simp only [hd,h0,aX,Int.toNat_natCast,hr,Option.map_some,aD,↓iM,↓wA,↓wC,wB,aF,aE,reduceEqDiff,reduceAdd,reduceSub,reduceIte,reduceCtorEq,Nat.reduceBEq,reduceLT]
  refine o6 (ds:=[iD r]) hcl he hc (by simp [bE,bV,nI,iD]) rfl ?_
  cases hpr:p r with
  | true =>
   simp only [↓wA,↓wC,wB,aF,aE,reduceEqDiff,reduceAdd,reduceSub,reduceIte,reduceCtorEq,Nat.reduceBEq,reduceLT]
   rw [lZ hr hpr hinv]
  | false =>
   simp only [↓wA,↓wC,wB,aF,aE,reduceEqDiff,reduceAdd,reduceSub,reduceIte,reduceCtorEq,Nat.reduceBEq,reduceLT]
   refine aI (by simp only [bQ]; omega) ?_
   refine cK (aN _ rfl ⟨⟨rfl,rfl⟩,⟨rfl,rfl⟩,⟨rfl,rfl⟩,⟨rfl,rfl⟩,trivial⟩) hlt fun j s hj hs=>?_
   by_cases e:j=i
   ·subst e; rw [hr] at hs; injection hs with hs; rw [<- hs]; exact hpr
   ·exact hinv j s (by omega) hs
 ·intro hinv hd
  simp only [hd,↓wA,↓wC,wB,aF,aE,reduceEqDiff,reduceAdd,reduceSub,reduceIte,reduceCtorEq,Nat.reduceBEq,reduceLT]
  rw [kM fun j r hj=>hinv j r (aK hj) hj]
theorem sC (p:Int->Bool) (g:Nat) (c:D) (xs:List Int) (hc:c.caps=true) (he:dE prog.P g=true) (hlen:xs.length<=1048576) (hp:∀ x∈xs,Fn prog g (iD x :: c.list) (fun rs=>rs=[.bool (p x)])) :
  Fn prog 86 [.sl false 1 (dl iD xs),.clo g c] (fun rs=>rs=[.bool (xs.any p)]):=by
 refine a8 (fn:=f86) (by exact func86) c86 r86 (n:=9) (by rfl) (rv:=[.tmp 4]) (by rfl) (by simp) ?_
 unfold m86
 try simp only [wQ]
 simp only [↓wA,↓wC,wB,aF,aE,reduceEqDiff,reduceAdd,reduceSub,reduceIte,reduceCtorEq,Nat.reduceBEq,reduceLT]
 refine aG (wX p g c xs hc he hlen hp) rfl rfl ?_
 simp only [pB,↓wA,↓wC,wB,aF,aE,reduceEqDiff,reduceAdd,reduceSub,reduceIte,reduceCtorEq,Nat.reduceBEq,reduceLT]
theorem x5 (xs:List Int) (v:Int) (hlen:xs.length<=1048576) :
  Fn prog 90 [.sl false 1 (dl iD xs),iD v] (fun rs=>rs=[.int .i64 (fT (fun x=>decide (v=x)) xs)]):=by
 refine a8 (fn:=f90) (by exact func90) c90 r90 (n:=19) (by rfl) (rv:=[.tmp 4]) (by rfl) (by simp) ?_
 unfold m90
 try simp only [wQ]
 simp only [aJ,iD,↓wA,↓wC,wB,aF,aE,reduceEqDiff,reduceAdd,reduceSub,reduceIte,reduceCtorEq,Nat.reduceBEq,reduceLT]
 refine bL xs.length (fun i:Nat=>⟨[(0,.d (.sl false 1 (dl iD xs))),(1,.d (iD v)),(7,.d (.int .i64 xs.length)),(8,.d (.int .i64 i))],[]⟩) (fun i=>∀ j r,j < i->xs[j]?=some r->decide (v=r)=false) (aN _ rfl ⟨⟨rfl,rfl⟩,⟨rfl,rfl⟩,⟨rfl,rfl⟩,⟨rfl,rfl⟩,trivial⟩) (fun j r hj=>by omega) ?_ ?_
 ·intro i hlt hinv hd h0
  obtain ⟨r,hr⟩:=bM hlt
  simp only [hd,h0,aX,Int.toNat_natCast,hr,Option.map_some,aD,↓iM,iD,↓wA,↓wC,wB,aF,aE,reduceEqDiff,reduceAdd,reduceSub,reduceIte,reduceCtorEq,Nat.reduceBEq,reduceLT]
  by_cases hpr:v=r
  ·simp only [decide_eq_true hpr,↓wA,↓wC,wB,aF,aE,reduceEqDiff,reduceAdd,reduceSub,reduceIte,reduceCtorEq,Nat.reduceBEq,reduceLT]
   rw [lZ hr (decide_eq_true hpr) hinv]
  ·simp only [decide_eq_false hpr,↓wA,↓wC,wB,aF,aE,reduceEqDiff,reduceAdd,reduceSub,reduceIte,reduceCtorEq,Nat.reduceBEq,reduceLT]
   refine aI (by simp only [bQ]; omega) ?_
   refine cK (aN _ rfl ⟨⟨rfl,rfl⟩,⟨rfl,rfl⟩,⟨rfl,rfl⟩,⟨rfl,rfl⟩,trivial⟩) hlt fun j s hj hs=>?_
   by_cases e:j=i
   ·subst e; rw [hr] at hs; injection hs with hs; rw [<- hs]; exact decide_eq_false hpr
   ·exact hinv j s (by omega) hs
 ·intro hinv hd
  simp only [hd,↓wA,↓wC,wB,aF,aE,reduceEqDiff,reduceAdd,reduceSub,reduceIte,reduceCtorEq,Nat.reduceBEq,reduceLT]
  rw [kM fun j r hj=>hinv j r (aK hj) hj]
theorem y6 (xs:List Int) (v:Int) (hlen:xs.length<=1048576):Fn prog 59 [.sl false 1 (dl iD xs),.int .i64 v] (fun rs=>rs=[.bool (xs.contains v)]):=by
 refine a8 (fn:=f59) (by exact func59) c59 r59 (n:=9) (by rfl) (rv:=[.tmp 4]) (by rfl) (by simp) ?_
 unfold m59
 try simp only [wQ]
 simp only [↓wA,↓wC,wB,aF,aE,reduceEqDiff,reduceAdd,reduceSub,reduceIte,reduceCtorEq,Nat.reduceBEq,reduceLT]
 refine aG (x5 xs v hlen) rfl rfl ?_
 simp only [pB,jU,↓wA,↓wC,wB,aF,aE,reduceEqDiff,reduceAdd,reduceSub,reduceIte,reduceCtorEq,Nat.reduceBEq,reduceLT]
end Go.Pe.Tryz
set_option maxRecDepth 100000
set_option maxHeartbeats 4000000
set_option linter.all false
namespace Go.Pe.Tryz
open Nat (reduceEqDiff reduceAdd reduceSub reduceLT)
open Go.Proofs.Tryz
theorem aCC {α:Type} (p:α->Bool) (xs:List α):xs.any (fun x=>!p x)=!xs.all p:=by
 induction xs with
 | nil=>rfl
 | cons a v ih=>simp [List.any_cons,List.all_cons,ih]
theorem aAu (v:List Int) (a b:Int) (hlen:v.length<=1048576):Fn prog 106 [.sl false 1 (dl iD v),.int .i64 a,.int .i64 b] (fun rs=>rs=[.bool (v.all (fun n=>aU n a b) && jM v)]):=by
 refine a8 (fn:=f106) (by exact func106) aMU aMo (n:=38) (by rfl) (rv:=[.tmp 6]) (by rfl) (by simp) ?_
 unfold aLF
 try simp only [wQ]
 simp only [↓wA,↓wC,wB,aF,aE,reduceEqDiff,reduceAdd,reduceSub,reduceIte,reduceCtorEq,Nat.reduceBEq,reduceLT]
 refine bL v.length (fun i:Nat=>⟨[(0,.d (.sl false 1 (dl iD v))),(1,.d (.int .i64 a)),(2,.d (.int .i64 b)),(7,.d (.int .i64 i))],[]⟩) (fun i=>(∀ j r,j < i->v[j]?=some r->aU r a b=true)/\∀ j,j + 1 < i->v.getD j 0 < v.getD (j + 1) 0) (aN _ rfl ⟨⟨rfl,rfl⟩,⟨rfl,rfl⟩,⟨rfl,rfl⟩,⟨rfl,rfl⟩,trivial⟩) ⟨fun j r hj=>by omega,fun j hj=>by omega⟩ ?_ ?_
 ·rintro i hlt ⟨hin,hri⟩ hd h0
  obtain ⟨r,hr⟩:=bM hlt
  have gr:v.getD i 0=r:=by simp [List.getD,hr]
  have hc:=gT r a b
  cases hw:aU r a b with
  | false =>
   have hres:(v.all (fun n=>aU n a b) && jM v)=false:=by
    have:v.all (fun n=>aU n a b)=false:=List.all_eq_false.2 ⟨r,List.mem_of_getElem? hr,by simp [hw]⟩
    rw [this]; rfl
   rw [hw] at hc
   repeat' (first|(simp only [aJ,aX,hd,h0,Int.toNat_natCast,hr,Option.map_some,↓iM,aD,↓wA,↓wC,wB,aF,aE,reduceEqDiff,reduceAdd,reduceSub,reduceIte,reduceCtorEq,Nat.reduceBEq,reduceLT])|(refine aG (hc) rfl rfl ?_)|(refine aH (hc) rfl rfl ?_)|((first|apply aB|apply aC|apply aA)<;>intro h<;>try simp only [h]))
   all_goals rw [hres]
  | true =>
   rw [hw] at hc
   have hin':∀ j s,j < i + 1->v[j]?=some s->aU s a b=true:=fun j s hj hs=>by
    by_cases e:j=i
    ·subst e; rw [hr] at hs; injection hs with hs; rw [<- hs]; exact hw
    ·exact hin j s (by omega) hs
   cases i with
   | zero =>
    have hg:decide ((0:Int) < ((0:Nat):Int))=false:=by decide
    repeat' (first|(simp only [aJ,aX,hd,h0,Int.toNat_natCast,hr,Option.map_some,↓iM,aD,hg,↓wA,↓wC,wB,aF,aE,reduceEqDiff,reduceAdd,reduceSub,reduceIte,reduceCtorEq,Nat.reduceBEq,reduceLT])|(refine aG (hc) rfl rfl ?_)|(refine aH (hc) rfl rfl ?_)|(refine aI (by simp only [bQ]; omega) ?_)|((first|apply aB|apply aC|apply aA)<;>intro h<;>try simp only [h]))
    all_goals exact cK (aN _ rfl ⟨⟨rfl,rfl⟩,⟨rfl,rfl⟩,⟨rfl,rfl⟩,⟨rfl,rfl⟩,trivial⟩) hlt ⟨hin',fun j hj=>by omega⟩
   | succ k =>
    obtain ⟨y,hy⟩:=bM (show k < v.length by omega)
    have gy:v.getD k 0=y:=by simp [List.getD,hy]
    have hg:decide ((0:Int) < ((k + 1:Nat):Int))=true:=decide_eq_true (by omega)
    have h1:(0:Int)<=((k + 1:Nat):Int) - 1:=by omega
    have hy':v[(((k + 1:Nat):Int) - 1).toNat]?=some y:=by rw [show (((k + 1:Nat):Int) - 1).toNat=k by omega]; exact hy
    by_cases hl:y < r
    ·have hq:decide (r<=y)=false:=decide_eq_false (by omega)
     repeat' (first|(simp only [aJ,aX,hd,h0,h1,Int.toNat_natCast,hr,hy',Option.map_some,↓iM,aD,hg,hq,↓wA,↓wC,wB,aF,aE,reduceEqDiff,reduceAdd,reduceSub,reduceIte,reduceCtorEq,Nat.reduceBEq,reduceLT])|(refine aG (hc) rfl rfl ?_)|(refine aH (hc) rfl rfl ?_)|(refine aI (by simp only [bQ]; omega) ?_)|((first|apply aB|apply aC|apply aA)<;>intro h<;>try simp only [h]))
     all_goals refine cK (aN _ rfl ⟨⟨rfl,rfl⟩,⟨rfl,rfl⟩,⟨rfl,rfl⟩,⟨rfl,rfl⟩,trivial⟩) hlt ⟨hin',fun j hj=>?_⟩
     by_cases e:j=k
     ·subst e; rw [gy,gr]; exact hl
     ·exact hri j (by omega)
    ·have hq:decide (r<=y)=true:=decide_eq_true (by omega)
     have hres:(v.all (fun n=>aU n a b) && jM v)=false:=by
      have:jM v=false:=by
       cases h:jM v with
       | false=>rfl
       | true =>
        have:=(lW v).1 h k hlt
        rw [gy,gr] at this; omega
      rw [this,Bool.and_false]
     repeat' (first|(simp only [aJ,aX,hd,h0,h1,Int.toNat_natCast,hr,hy',Option.map_some,↓iM,aD,hg,hq,↓wA,↓wC,wB,aF,aE,reduceEqDiff,reduceAdd,reduceSub,reduceIte,reduceCtorEq,Nat.reduceBEq,reduceLT])|(refine aG (hc) rfl rfl ?_)|(refine aH (hc) rfl rfl ?_)|(refine aI (by simp only [bQ]; omega) ?_)|((first|apply aB|apply aC|apply aA)<;>intro h<;>try simp only [h]))
     all_goals rw [hres]
 ·rintro ⟨hin,hri⟩ hd
  have hres:(v.all (fun n=>aU n a b) && jM v)=true:=by
   rw [Bool.and_eq_true]
   refine ⟨List.all_eq_true.2 fun n hn=>?_,(lW v).2 fun j hj=>hri j hj⟩
   obtain ⟨j,hj⟩:=List.getElem?_of_mem hn
   exact hin j n (aK hj) hj
  simp only [aJ,hd,↓wA,↓wC,wB,aF,aE,reduceEqDiff,reduceAdd,reduceSub,reduceIte,reduceCtorEq,Nat.reduceBEq,reduceLT]
  rw [hres]
end Go.Pe.Tryz
set_option maxRecDepth 100000
set_option maxHeartbeats 4000000
set_option linter.all false
namespace Go.Pe.Tryz
open Nat (reduceEqDiff reduceAdd reduceSub reduceLT)
open Go.Proofs.Tryz
end Go.Pe.Tryz
set_option maxRecDepth 100000
set_option maxHeartbeats 4000000
set_option linter.all false
namespace Go.Pe.Tryz
open Nat (reduceEqDiff reduceAdd reduceSub reduceLT)
open Go.Proofs.Tryz
structure Cs where
 i:Int
 a:Int
 d:Int
 h:List Int
def Cs.p (x:Cs) (dh:D):D:=.st (.cons (.int .i64 x.i) (.cons (.int .i64 x.a) (.cons (.int .i64 x.d) (.cons dh .nil))))
def Cs.s (x:Cs):D:=x.p (.sl false 1 (dl iD x.h))
def Cs.o (x:Cs):D:=x.p (.sl true 1 (dl iD x.h))
def Cs.ok0 (x:Cs):Prop:=x.h.length<=1048576
structure Off where
 day:Int
 cs:List Cs
 kept:Int
 moved:Int
 led:List (List UInt8)
def bD (o:Off) (dc dd:D):D:=.st (.cons (.int .i64 o.day) (.cons dc (.cons (.int .i64 o.kept) (.cons (.int .i64 o.moved) (.cons dd .nil)))))
def Off.s (o:Off):D:=bD o (.sl false 4 (dl Cs.s o.cs)) (.sl false 1 (dl D.str o.led))
def Off.o (o:Off):D:=bD o (.sl true 4 (dl Cs.o o.cs)) (.sl true 1 (dl D.str o.led))
def aJf (L:List (List UInt8)):Prop:=L.length<=1048576/\∀ s∈L,s.length<=1048576
def oV (xs:List Cs):Prop:=xs.length<=1048576/\∀ x∈xs,x.ok0
def Off.ok0 (o:Off):Prop:=oV o.cs/\aJf o.led
theorem aL (L:List (List UInt8)):(dl D.str L).noOwn=true:=nW (fun _=>rfl) L
theorem gY (L:List (List UInt8)):(dl D.str L).unown=dl D.str L:=qZ (fun _=>rfl) L
theorem aAX (L:List (List UInt8)):(dl D.str L).allOwn=true:=l6 (fun _=>rfl) L
theorem Cs.s_noOwn (x:Cs):x.s.noOwn=true:=by simp [Cs.s,Cs.p,D.noOwn,aS]
theorem Cs.s_unown (x:Cs):x.s.unown=x.s:=by simp [Cs.s,Cs.p,D.unown,cH]
theorem Cs.o_unown (x:Cs):x.o.unown=x.s:=by simp [Cs.o,Cs.s,Cs.p,D.unown,cH]
theorem Cs.o_own (x:Cs):x.o.allOwn=true:=by simp [Cs.o,Cs.p,D.allOwn,l6 xX]
theorem Cs.s_isV (x:Cs):x.s.isV=true:=rfl
theorem Cs.s_size (x:Cs):x.s.size=4:=rfl
theorem Cs.o_isV (x:Cs):x.o.isV=true:=rfl
theorem Cs.o_size (x:Cs):x.o.size=4:=rfl
theorem aM (xs:List Cs):(dl Cs.s xs).noOwn=true:=nW Cs.s_noOwn xs
theorem dA (xs:List Cs):(dl Cs.s xs).unown=dl Cs.s xs:=qZ Cs.s_unown xs
theorem xZ:∀ xs:List Cs,(dl Cs.o xs).unown=dl Cs.s xs
 | []=>rfl
 | x :: xs=>by
  have:=xZ xs
  simp only [dl,List.map_cons,eP,D.unown,Cs.o_unown] at this ⊢
  rw [this]
theorem aGy (xs:List Cs):(dl Cs.o xs).allOwn=true:=l6 Cs.o_own xs
theorem Off.s_noOwn (o:Off):o.s.noOwn=true:=by simp [Off.s,bD,D.noOwn,aM,aL]
theorem Off.s_unown (o:Off):o.s.unown=o.s:=by simp [Off.s,bD,D.unown,dA,gY]
theorem Off.o_unown (o:Off):o.o.unown=o.s:=by simp [Off.s,Off.o,bD,D.unown,xZ,gY]
theorem Off.o_own (o:Off):o.o.allOwn=true:=by simp [Off.o,bD,D.allOwn,aGy,aAX]
theorem fS {o:List Ob} {K:SV->Prop} {x:Cs}:cE o (some 4) x.s K=K (.d x.s):=by simp [Cs.s,Cs.p,cE,D.size,D.noOwn,aS]
theorem bG {o:List Ob} {K:SV->Prop} {x:Off}:cE o (some 5) x.s K=K (.d x.s):=by simp [Off.s,bD,cE,D.size,D.noOwn,aM,aL]
theorem fX {α:Type} {xs:List α} {i:Nat} {r:α} (hr:xs[i]?=some r):xs.take (i + 1)=xs.take i ++ [r]:=by
 have hi:=aK hr
 rw [List.take_succ_eq_append_getElem hi]
 rw [List.getElem?_eq_getElem hi] at hr
 injection hr with hr
 rw [hr]
theorem aCQ {P:PG} {f:FuncId} {ds:List D} {R S:List D->Prop} (h:Fn P f ds R) (hs:∀ rs,R rs->S rs):Fn P f ds S:=by
 intro M vs w h1 h2 h3
 refine (h M vs w h1 h2 h3).mono ?_
 rintro e w' ⟨rs,us,fp,e1,e2,e3⟩
 exact ⟨rs,us,fp,e1,hs rs e2,e3⟩
end Go.Pe.Tryz
set_option maxRecDepth 100000
set_option maxHeartbeats 4000000
set_option linter.all false
namespace Go.Pe.Tryz
open Nat (reduceEqDiff reduceAdd reduceSub reduceLT)
open Go.Proofs.Tryz
def tJ (l:List UInt8):List Bool:=(List.range 256).map fun j=>l.contains (UInt8.ofNat j)
def pD (l:List UInt8):D:=.st (dl D.bool (tJ l))
theorem xR {w:World} {M:Nat->Prop}:∀ L:List Bool,(dl D.bool L).rep w M (L.map Value.bool) []
 | []=>⟨rfl,rfl⟩
 | b :: L=>⟨[.bool b],_,[],[],rfl,rfl,⟨rfl,rfl⟩,xR L⟩
theorem aBf (l:List UInt8):(Lib.setCells l).toList=(tJ l).map Value.bool:=by
 rw [Lib.setCells_eq]
 simp [tJ,List.map_map,Function.comp_def]
theorem aGB (l:List UInt8) (x:UInt8):(tJ l)[x.toNat]?=some (l.contains x):=by
 have h:=x.toNat_lt
 simp only [tJ,List.getElem?_map,List.getElem?_range h,Option.map_some,UInt8.ofNat_toNat]
theorem aCm (s:List UInt8) (h128:∀ b∈s,b.toNat < 128) (hl:s.length < 4000000000):Fn prog 124 [.str s] (fun rs=>rs=[pD s,.bool true]):=by
 intro M vs w hM hG hv
 obtain ⟨cs,us,f1,f2,rfl,e,⟨rfl,_⟩,rfl,rfl⟩:=hv
 refine (Go.Proofs.Tryz.strings_makeASCIISet (fun w=>by kernel_rfl) ⟨s.toArray⟩ w (by show s.toArray.size < _; simp; omega) ?_).mono ?_
 ·intro j b hb
  exact h128 b (List.mem_of_getElem? (by simpa using hb))
 ·rintro e w' ⟨rfl,rfl⟩
  refine ⟨[pD s,.bool true],[.agg (Lib.setCells s),.bool true],[],rfl,rfl,⟨(Lib.setCells s).toList,[.bool true],[],[],rfl,rfl,?_,⟨[.bool true],[],[],[],rfl,rfl,⟨rfl,rfl⟩,rfl,rfl⟩⟩,List.nodup_nil,(by simp),eJ w _⟩
  rw [aBf]
  exact xR _
theorem xW:∀ (L:List Bool) (n:Nat),n<=L.length->(dl D.bool L).pre n=n
 | _,0,_=>by cases ‹List Bool›<;>rfl
 | [],n + 1,h=>by simp at h
 | b :: L,n + 1,h=>by
  have:=xW L n (by simpa using h)
  show 1 + (dl D.bool L).pre n=n + 1
  omega
theorem qK (l:List UInt8) (x:UInt8):Fn prog 148 [.ptr (pD l),.int .u8 (x.toNat:Int)] (fun rs=>rs=[.bool (l.contains x)]):=by
 have h256:=x.toNat_lt
 have hx:=aGB l x
 have hp:=xW (tJ l) x.toNat (by simp [tJ]; omega)
 have hp':(dl D.bool (tJ l)).pre x.toNat=x.toNat * 1:=by omega
 refine a8 (fn:=f148) (by exact func148) aMN aL5 (n:=10) (by rfl) (rv:=[.tmp 4]) (by rfl) (by simp) ?_
 unfold aKV
 try simp only [wQ]
 simp only [pD]
 repeat' (first|(simp only [aD,Int.toNat_natCast,hp',aX,hx,Option.map_some,↓wA,↓wC,wB,aF,aE,reduceEqDiff,reduceAdd,reduceSub,reduceIte,reduceCtorEq,Nat.reduceBEq,reduceLT])|(with_reducible refine aQ ?_ ?_; focus omega)|((first|apply aB|apply aC|apply aA)<;>intro h<;>try simp only [h]))
def kN (l s:List UInt8):List UInt8:=s.dropWhile (fun b=>l.contains b)
def kX (l s:List UInt8):List UInt8:=(s.reverse.dropWhile (fun b=>l.contains b)).reverse
theorem aE9 (l s:List UInt8) (hl:s.length<=1000000):Fn prog 125 [.str s,.ptr (pD l)] (fun rs=>rs=[.str (kN l s)]):=by
 refine a8 (fn:=f125) (by exact func125) aNw aND (n:=16) (by rfl) (rv:=[.tmp 4]) (by rfl) (by simp) ?_
 unfold aLB
 try simp only [wQ]
 repeat' (first|(simp only [aD,↓wA,↓wC,wB,aF,aE,reduceEqDiff,reduceAdd,reduceSub,reduceIte,reduceCtorEq,Nat.reduceBEq,reduceLT])|((first|apply aB|apply aC|apply aA)<;>intro h<;>try simp only [h]))
 refine cZ (fun t:List UInt8=>⟨[(0,.d (.str t)),(1,.d (.ptr (pD l)))],[]⟩) (fun t=>kN l t=kN l s/\t.length<=1000000) (fun t=>t.length) s (aN _ rfl ⟨⟨rfl,rfl⟩,⟨rfl,rfl⟩,trivial⟩) ⟨rfl,hl⟩ ?_
 rintro t ⟨h1,h2⟩
 cases t with
 | nil =>
  have hd:decide ((0:Int) < ((0:Nat):Int))=false:=rfl
  repeat' (first|(simp only [aD,hd,↓wA,↓wC,wB,aF,aE,reduceEqDiff,reduceAdd,reduceSub,reduceIte,reduceCtorEq,Nat.reduceBEq,reduceLT])|((first|apply aB|apply aC|apply aA)<;>intro h<;>try simp only [h]))
  all_goals (rw [<- h1]; rfl)
 | cons b t =>
  have hd:decide ((0:Int) < ((t.length + 1:Nat):Int))=true:=decide_eq_true (by omega)
  have hC:=qK l b
  have h0:(b :: t)[(0:Int).toNat]?=some b:=rfl
  have hdr:(b :: t).drop (1:Int).toNat=t:=rfl
  simp only [List.length_cons] at h2
  cases hb:l.contains b with
  | true =>
   rw [hb] at hC
   have e:kN l (b :: t)=kN l t:=by unfold kN; rw [List.dropWhile_cons,if_pos hb]
   repeat' (first|(simp only [aD,hd,h0,hdr,↓wA,↓wC,wB,aF,aE,reduceEqDiff,reduceAdd,reduceSub,reduceIte,reduceCtorEq,Nat.reduceBEq,reduceLT])|(refine aG (hC) rfl rfl ?_)|(refine aH (hC) rfl rfl ?_)|(with_reducible refine aQ ?_ ?_; focus omega)|(with_reducible refine aQ ?_ ?_; focus (simp; done))|((first|apply aB|apply aC|apply aA)<;>intro h<;>try simp only [h]))
   all_goals exact ⟨t,(aN _ rfl ⟨⟨rfl,rfl⟩,⟨rfl,rfl⟩,trivial⟩),⟨by rw [<- e]; exact h1,by omega⟩,by simp⟩
  | false =>
   rw [hb] at hC
   have e:kN l (b :: t)=b :: t:=by unfold kN; rw [List.dropWhile_cons,if_neg (by rw [hb]; decide)]
   repeat' (first|(simp only [aD,hd,h0,↓wA,↓wC,wB,aF,aE,reduceEqDiff,reduceAdd,reduceSub,reduceIte,reduceCtorEq,Nat.reduceBEq,reduceLT])|(refine aG (hC) rfl rfl ?_)|(refine aH (hC) rfl rfl ?_)|(with_reducible refine aQ ?_ ?_; focus omega)|((first|apply aB|apply aC|apply aA)<;>intro h<;>try simp only [h]))
   all_goals (rw [<- h1,e])
theorem vZ (l s:List UInt8) (b:UInt8):kX l (s ++ [b])=if l.contains b=true then kX l s else s ++ [b]:=by
 unfold kX
 rw [List.reverse_append,List.reverse_singleton,List.singleton_append,List.dropWhile_cons]
 split
 ·rfl
 ·simp
theorem aD8 (l s:List UInt8) (hl:s.length<=1000000):Fn prog 126 [.str s,.ptr (pD l)] (fun rs=>rs=[.str (kX l s)]):=by
 refine a8 (fn:=f126) (by exact func126) aNQ aME (n:=22) (by rfl) (rv:=[.tmp 4]) (by rfl) (by simp) ?_
 unfold aLe
 try simp only [wQ]
 repeat' (first|(simp only [aD,↓wA,↓wC,wB,aF,aE,reduceEqDiff,reduceAdd,reduceSub,reduceIte,reduceCtorEq,Nat.reduceBEq,reduceLT])|((first|apply aB|apply aC|apply aA)<;>intro h<;>try simp only [h]))
 refine cZ (fun t:List UInt8=>⟨[(0,.d (.str t)),(1,.d (.ptr (pD l)))],[]⟩) (fun t=>kX l t=kX l s/\t.length<=1000000) (fun t=>t.length) s (aN _ rfl ⟨⟨rfl,rfl⟩,⟨rfl,rfl⟩,trivial⟩) ⟨rfl,hl⟩ ?_
 rintro t ⟨h1,h2⟩
 rcases List.eq_nil_or_concat t with rfl|⟨u,b,rfl⟩
 ·have hd:decide ((0:Int) < ((0:Nat):Int))=false:=rfl
  repeat' (first|(simp only [aD,hd,↓wA,↓wC,wB,aF,aE,reduceEqDiff,reduceAdd,reduceSub,reduceIte,reduceCtorEq,Nat.reduceBEq,reduceLT])|((first|apply aB|apply aC|apply aA)<;>intro h<;>try simp only [h]))
  all_goals (rw [<- h1]; rfl)
 ·rw [List.concat_eq_append] at *
  have hlen:(u ++ [b]).length=u.length + 1:=by simp
  rw [hlen] at h2
  have hd:decide ((0:Int) < ((u.length + 1:Nat):Int))=true:=decide_eq_true (by omega)
  have hC:=qK l b
  have hn:(((u.length + 1:Nat):Int) - 1).toNat=u.length:=by omega
  have h0:(u ++ [b])[u.length]?=some b:=by simp
  have htk:(u ++ [b]).take u.length=u:=by simp
  have e:=vZ l u b
  cases hb:l.contains b with
  | true =>
   rw [hb] at hC
   rw [if_pos hb] at e
   repeat' (first|(simp only [aD,hlen,hd,hn,h0,htk,↓wA,↓wC,wB,aF,aE,reduceEqDiff,reduceAdd,reduceSub,reduceIte,reduceCtorEq,Nat.reduceBEq,reduceLT])|(refine aG (hC) rfl rfl ?_)|(refine aH (hC) rfl rfl ?_)|(with_reducible refine aI ?_ ?_; focus (simp only [bQ]; omega))|(with_reducible refine aQ ?_ ?_; focus omega)|((first|apply aB|apply aC|apply aA)<;>intro h<;>try simp only [h]))
   all_goals exact ⟨u,(aN _ rfl ⟨⟨rfl,rfl⟩,⟨rfl,rfl⟩,trivial⟩),⟨by rw [<- e]; exact h1,by omega⟩,by simp⟩
  | false =>
   rw [hb] at hC
   rw [if_neg (by rw [hb]; decide)] at e
   repeat' (first|(simp only [aD,hlen,hd,hn,h0,↓wA,↓wC,wB,aF,aE,reduceEqDiff,reduceAdd,reduceSub,reduceIte,reduceCtorEq,Nat.reduceBEq,reduceLT])|(refine aG (hC) rfl rfl ?_)|(refine aH (hC) rfl rfl ?_)|(with_reducible refine aI ?_ ?_; focus (simp only [bQ]; omega))|(with_reducible refine aQ ?_ ?_; focus omega)|((first|apply aB|apply aC|apply aA)<;>intro h<;>try simp only [h]))
   all_goals (rw [<- h1,e])
def d5:List UInt8:=[97,98,99,100,101,102,103,104,105,106,107,108,109,110,111,112,113,114,115,116,117,118,119,120,121,122,48,49,50,51,52,53,54,55,56,57,32,45]
def eB (b:UInt8):Bool:=aU (b.toNat:Int) 97 122 || aU (b.toNat:Int) 48 57 || decide ((b.toNat:Int)=32) || decide ((b.toNat:Int)=45)
theorem aJA (b:UInt8):d5.contains b=eB b:=by
 have h:∀ n,n < 256->d5.contains (UInt8.ofNat n)=eB (UInt8.ofNat n):=by decide
 have:=h b.toNat b.toNat_lt
 rwa [UInt8.ofNat_toNat] at this
theorem lO {p:UInt8->Bool}:∀ (s:List UInt8),s.dropWhile p=[]↔s.all p=true
 | []=>by simp
 | b :: s=>by
  rw [List.dropWhile_cons]
  cases hb:p b with
  | true=>simp [hb,lO s]
  | false=>simp [hb]
theorem aDI (l:List UInt8):∀ (n:Nat) (s:List UInt8),s.length=n->(kN l (kX l s)=[]↔s.all (fun b=>l.contains b)=true):=by
 intro n
 induction n with
 | zero =>
  intro s hs
  obtain rfl:=List.eq_nil_of_length_eq_zero hs
  simp [kN,kX]
 | succ n IH =>
 intro s hs
 unfold kN
 rw [lO]
 rcases List.eq_nil_or_concat s with rfl|⟨u,b,rfl⟩
 ·simp [kX]
 ·rw [List.concat_eq_append,vZ]
  split
  ·rename_i hb
   have ih:=IH u (by simpa using hs)
   unfold kN at ih
   rw [lO] at ih
   rw [ih,List.all_append]
   simp only [List.all_cons,List.all_nil,hb,Bool.and_true]
  ·rfl
theorem aFu (l s:List UInt8):kN l (kX l s)=[]↔s.all (fun b=>l.contains b)=true:=aDI l _ s rfl
def gV (s:List UInt8):Bool:=aU s.length 1 40 && s.all eB
def aI5:D:=.st (eP (List.replicate 256 (D.bool false)))
theorem aBn (l:List UInt8):(pD l).noOwn=true:=nW (f:=D.bool) (fun _=>rfl) (tJ l)
theorem aCh (l:List UInt8):(pD l).unown=pD l:=by
 show D.st (dl D.bool (tJ l)).unown=_
 rw [qZ (fun _=>rfl)]; rfl
theorem vI:∀ L:List Bool,(dl D.bool L).size=L.length
 | []=>rfl
 | b :: L=>by
  have:=vI L
  show 1 + (dl D.bool L).size=L.length + 1
  omega
theorem aDf (l:List UInt8):(pD l).size=256:=by
 show (dl D.bool (tJ l)).size=256
 rw [vI]; simp [tJ]
theorem aG4 (s:List UInt8) (h0:0 < s.length) (hl:s.length<=1000):Fn prog 108 [.str s,.str d5] (fun rs=>rs=[.str (kN d5 (kX d5 s))]):=by
 have hM:=aCm d5 (by decide) (by decide)
 have hR:=aD8 d5 s (by omega)
 have hrl:(kX d5 s).length<=s.length:=by
  unfold kX
  have:=(List.dropWhile_sublist (p:=fun b=>d5.contains b) (l:=s.reverse)).length_le
  simpa using this
 have hL:=aE9 d5 (kX d5 s) (by omega)
 have d1:decide (s=[])=false:=decide_eq_false (fun h=>by rw [h] at h0; simp at h0)
 have d2:decide (d5=[])=false:=rfl
 have d3:decide ((d5.length:Int)=1)=false:=rfl
 have n1:(pD d5).noOwn=true:=aBn _
 have n2:(pD d5).isV=true:=rfl
 have n3:=aDf d5
 have n4:(pD d5).unown=pD d5:=aCh _
 have hz:D.st (eP (List.replicate 256 (D.bool false)))=aI5:=rfl
 have n5:aI5.size=256:=rfl
 refine dL (ps:=[[1,1,1,0,1,1,0,0]]) (fn:=f108) (by exact func108) aMS aMb (n:=43) (by rfl) (rv:=[.tmp 4]) (by rfl) (by simp) ?_
 unfold aKy
 try simp only [wQ]
 simp only [cI,dD]
 rw [hz]
 generalize aI5=Z at n5
 repeat' (first|(simp only [aD,d1,d2,d3,n1,n2,n3,n5,↓wA,↓wC,wB,aF,aE,reduceEqDiff,reduceAdd,reduceSub,reduceIte,reduceCtorEq,Nat.reduceBEq,reduceLT])|(refine aG (hM) rfl rfl ?_)|(refine aH (hM) rfl rfl ?_)|((first|apply aB|apply aC|apply aA)<;>intro h<;>try simp only [h]))
 refine aR (dU 0 rfl) ?_
 repeat' (first|(simp only [aD,n4,↓wA,↓wC,wB,aF,aE,reduceEqDiff,reduceAdd,reduceSub,reduceIte,reduceCtorEq,Nat.reduceBEq,reduceLT])|(refine aG (hR) rfl rfl ?_)|(refine aH (hR) rfl rfl ?_)|(refine aG (hL) rfl rfl ?_)|(refine aH (hL) rfl rfl ?_)|((first|apply aB|apply aC|apply aA)<;>intro h<;>try simp only [h]))
 all_goals trace_state
end Go.Pe.Tryz
set_option maxRecDepth 100000
set_option maxHeartbeats 4000000
set_option linter.all false
namespace Go.Pe.Tryz
open Nat (reduceEqDiff reduceAdd reduceSub reduceLT)
open Go.Proofs.Tryz
theorem aCd (n:Nat):aU (n:Int) 1 40=true->0 < n/\n<=40:=by
 intro h
 simp only [aU,Bool.and_eq_true,decide_eq_true_eq] at h
 omega
theorem uT (s:List UInt8):Fn prog 82 [.str s] (fun rs=>rs=[.bool (gV s)]):=by
 unfold gV
 cases hw:aU (s.length:Int) 1 40 with
 | false =>
  have hW:=dB (s.length:Int) 1 40
  rw [hw] at hW
  refine a8 (fn:=f82) (by exact func82) c82 r82 (n:=11) (by rfl) (rv:=[.tmp 2]) (by rfl) (by simp) ?_
  unfold m82
  try simp only [wQ]
  repeat' (first|(simp only [↓wA,↓wC,wB,aF,aE,reduceEqDiff,reduceAdd,reduceSub,reduceIte,reduceCtorEq,Nat.reduceBEq,reduceLT])|(refine aG (hW) rfl rfl ?_)|(refine aH (hW) rfl rfl ?_)|((first|apply aB|apply aC|apply aA)<;>intro h<;>try simp only [h]))
  all_goals rfl
 | true =>
  have hW:=dB (s.length:Int) 1 40
  rw [hw] at hW
  have hl:=aCd _ hw
  have hT:=aG4 s hl.1 (by omega)
  have he:decide (kN d5 (kX d5 s)=[])=s.all eB:=by
   have h1:=aFu d5 s
   have h2:(s.all fun b=>d5.contains b)=s.all eB:=by
    congr 1
    funext b
    exact aJA b
   rw [h2] at h1
   cases hb:s.all eB with
   | true=>exact decide_eq_true (h1.2 hb)
   | false=>exact decide_eq_false (fun h=>by rw [h1.1 h] at hb; cases hb)
  simp only [d5] at hT he
  refine a8 (fn:=f82) (by exact func82) c82 r82 (n:=11) (by rfl) (rv:=[.tmp 2]) (by rfl) (by simp) ?_
  unfold m82
  try simp only [wQ]
  repeat' (first|(simp only [↓wA,↓wC,wB,aF,aE,reduceEqDiff,reduceAdd,reduceSub,reduceIte,reduceCtorEq,Nat.reduceBEq,reduceLT])|(refine aG (hW) rfl rfl ?_)|(refine aH (hW) rfl rfl ?_)|(refine aG (hT) rfl rfl ?_)|(refine aH (hT) rfl rfl ?_)|((first|apply aB|apply aC|apply aA)<;>intro h<;>try simp only [h]))
  all_goals exact congrArg (fun b=>[D.bool b]) he
theorem y3 (b:UInt8):Fn prog 121 [.int .u8 (b.toNat:Int)] (fun rs=>rs=[.bool (aU (b.toNat:Int) 97 122)]):=by
 refine a8 (fn:=f121) (by exact func121) aMF aMt (n:=9) (by rfl) (rv:=[.tmp 2]) (by rfl) (by simp) ?_
 unfold aLw
 try simp only [wQ]
 repeat' (first|(simp only [↓wA,↓wC,wB,aF,aE,reduceEqDiff,reduceAdd,reduceSub,reduceIte,reduceCtorEq,Nat.reduceBEq,reduceLT])|((first|apply aB|apply aC|apply aA)<;>intro h<;>try simp only [h]))
 all_goals first|(simp_all [aU]; done)|(simp_all [aU]; intros; omega)
theorem aAE (s:List UInt8) (hl:s.length<=1048576):Fn prog 105 [.str s] (fun rs=>rs=[.bool (gV s)]):=by
 have hW:=gT (s.length:Int) 1 40
 unfold gV
 refine a8 (fn:=f105) (by exact func105) aL6 aN1 (n:=37) (by rfl) (rv:=[.tmp 2]) (by rfl) (by simp) ?_
 unfold aKP
 try simp only [wQ]
 repeat' (first|(simp only [aD,↓wA,↓wC,wB,aF,aE,reduceEqDiff,reduceAdd,reduceSub,reduceIte,reduceCtorEq,Nat.reduceBEq,reduceLT])|((first|apply aB|apply aC|apply aA)<;>intro h<;>try simp only [h]))
 refine bL s.length (fun i:Nat=>⟨[(0,.d (.str s)),(3,.d (.int .i64 i))],[]⟩) (fun i=>∀ j b,j < i->s[j]?=some b->eB b=true) (aN _ rfl ⟨⟨rfl,rfl⟩,⟨rfl,rfl⟩,trivial⟩) (fun j r hj=>by omega) ?_ ?_
 ·intro i hlt hinv hd h0
  obtain ⟨b,hb⟩:=bM hlt
  have hL:=y3 b
  have hbad:eB b=false->(aU (s.length:Int) 1 40 && s.all eB)=false:=by
   intro h
   have:s.all eB=false:=List.all_eq_false.2 ⟨b,List.mem_of_getElem? hb,by rw [h]; simp⟩
   rw [this,Bool.and_false]
  have hgood:eB b=true->∀ j c,j < i + 1->s[j]?=some c->eB c=true:=by
   intro h j c hj hc
   by_cases e:j=i
   ·subst e; rw [hb] at hc; injection hc with hc; rw [<- hc]; exact h
   ·exact hinv j c (by omega) hc
  cases hlt1:aU (b.toNat:Int) 97 122 with
  | true =>
   rw [hlt1] at hL
   have hg:=hgood (by unfold eB; rw [hlt1]; rfl)
   repeat' (first|(simp only [aD,hd,h0,hb,Int.toNat_natCast,↓wA,↓wC,wB,aF,aE,reduceEqDiff,reduceAdd,reduceSub,reduceIte,reduceCtorEq,Nat.reduceBEq,reduceLT])|(refine aG (hL) rfl rfl ?_)|(refine aH (hL) rfl rfl ?_)|(with_reducible refine aI ?_ ?_; focus (simp only [bQ]; omega))|((first|apply aB|apply aC|apply aA)<;>intro h<;>try simp only [h]))
   all_goals exact cK (aN _ rfl ⟨⟨rfl,rfl⟩,⟨rfl,rfl⟩,trivial⟩) hlt hg
  | false =>
   rw [hlt1] at hL
   repeat' (first|(simp only [aD,hd,h0,hb,Int.toNat_natCast,↓wA,↓wC,wB,aF,aE,reduceEqDiff,reduceAdd,reduceSub,reduceIte,reduceCtorEq,Nat.reduceBEq,reduceLT])|(refine aG (hL) rfl rfl ?_)|(refine aH (hL) rfl rfl ?_)|(with_reducible refine aI ?_ ?_; focus (simp only [bQ]; omega))|((first|apply aB|apply aC|apply aA)<;>intro h<;>try simp only [h]))
   all_goals first
    |(refine cK (aN _ rfl ⟨⟨rfl,rfl⟩,⟨rfl,rfl⟩,trivial⟩) hlt (hgood ?_); focus (clear hL hW hgood hbad; simp_all [eB,aU]; done))
    |(refine (congrArg (fun x=>[D.bool x]) (hbad ?_)).symm; focus (clear hL hW hgood hbad; simp_all [eB,aU]; done))
    |(refine (congrArg (fun x=>[D.bool x]) (hbad ?_)).symm; focus (clear hL hW hgood hbad hinv; simp_all [eB,aU]; intros; omega))
    |(refine (congrArg (fun x=>[D.bool x]) (hbad ?_)).symm; focus (clear hL hW hgood hbad hinv; simp_all [eB,aU]; omega))
    | trace_state
 ·intro hinv hd
  have:s.all eB=true:=List.all_eq_true.2 fun b hb=>by
   obtain ⟨j,hj⟩:=List.getElem?_of_mem hb
   exact hinv j b (aK hj) hj
  rw [this,Bool.and_true]
  repeat' (first|(simp only [aD,hd,↓wA,↓wC,wB,aF,aE,reduceEqDiff,reduceAdd,reduceSub,reduceIte,reduceCtorEq,Nat.reduceBEq,reduceLT])|(refine aG (hW) rfl rfl ?_)|(refine aH (hW) rfl rfl ?_)|((first|apply aB|apply aC|apply aA)<;>intro h<;>try simp only [h]))
def gP (L:List (List UInt8)):Bool:=aU L.length 1 8 && L.all gV
theorem aAQ (s:List UInt8):Fn prog 81 [.str s] (fun rs=>rs=[.bool (!gV s)]):=by
 refine a8 (fn:=f81) (by exact func81) c81 r81 (n:=6) (by rfl) (rv:=[.tmp 2]) (by rfl) (by simp) ?_
 unfold m81
 try simp only [wQ]
 repeat' (first|(simp only [↓wA,↓wC,wB,aF,aE,reduceEqDiff,reduceAdd,reduceSub,reduceIte,reduceCtorEq,Nat.reduceBEq,reduceLT])|(refine aG (uT s) rfl rfl ?_)|(refine aH (uT s) rfl rfl ?_)|((first|apply aB|apply aC|apply aA)<;>intro h<;>try simp only [h]))
theorem w4 (p:(List UInt8)->Bool) (g:Nat) (c:D) (xs:List (List UInt8)) (hc:c.caps=true) (he:dE prog.P g=true) (hlen:xs.length<=1048576) (hp:∀ x∈xs,Fn prog g (D.str x :: c.list) (fun rs=>rs=[.bool (p x)])) :
  Fn prog 107 [.sl false 1 (dl D.str xs),.clo g c] (fun rs=>rs=[.int .i64 (fT p xs)]):=by
 refine a8 (fn:=f107) (by exact func107) aNg aMj (n:=19) (by rfl) (rv:=[.tmp 4]) (by rfl) (by simp) ?_
 unfold aLy
 try simp only [wQ]
 simp only [aJ,↓wA,↓wC,wB,aF,aE,reduceEqDiff,reduceAdd,reduceSub,reduceIte,reduceCtorEq,Nat.reduceBEq,reduceLT]
 refine bL xs.length (fun i:Nat=>⟨[(0,.d (.sl false 1 (dl D.str xs))),(1,.d (.clo g c)),(7,.d (.int .i64 xs.length)),(8,.d (.int .i64 i))],[]⟩) (fun i=>∀ j r,j < i->xs[j]?=some r->p r=false) (aN _ rfl ⟨⟨rfl,rfl⟩,⟨rfl,rfl⟩,⟨rfl,rfl⟩,⟨rfl,rfl⟩,trivial⟩) (fun j r hj=>by omega) ?_ ?_
 ·intro i hlt hinv hd h0
  obtain ⟨r,hr⟩:=bM hlt
  have hcl:=hp r (List.mem_of_getElem? hr)
  simp only [hd,h0,aX,Int.toNat_natCast,hr,Option.map_some,aD,↓aFB,↓wA,↓wC,wB,aF,aE,reduceEqDiff,reduceAdd,reduceSub,reduceIte,reduceCtorEq,Nat.reduceBEq,reduceLT]
  refine o6 (ds:=[D.str r]) hcl he hc (by simp [bE,bV,nI,D.str]) rfl ?_
  cases hpr:p r with
  | true =>
   simp only [↓wA,↓wC,wB,aF,aE,reduceEqDiff,reduceAdd,reduceSub,reduceIte,reduceCtorEq,Nat.reduceBEq,reduceLT]
   rw [lZ hr hpr hinv]
  | false =>
   simp only [↓wA,↓wC,wB,aF,aE,reduceEqDiff,reduceAdd,reduceSub,reduceIte,reduceCtorEq,Nat.reduceBEq,reduceLT]
   refine aI (by simp only [bQ]; omega) ?_
   refine cK (aN _ rfl ⟨⟨rfl,rfl⟩,⟨rfl,rfl⟩,⟨rfl,rfl⟩,⟨rfl,rfl⟩,trivial⟩) hlt fun j s hj hs=>?_
   by_cases e:j=i
   ·subst e; rw [hr] at hs; injection hs with hs; rw [<- hs]; exact hpr
   ·exact hinv j s (by omega) hs
 ·intro hinv hd
  simp only [hd,↓wA,↓wC,wB,aF,aE,reduceEqDiff,reduceAdd,reduceSub,reduceIte,reduceCtorEq,Nat.reduceBEq,reduceLT]
  rw [kM fun j r hj=>hinv j r (aK hj) hj]
theorem sG (p:(List UInt8)->Bool) (g:Nat) (c:D) (xs:List (List UInt8)) (hc:c.caps=true) (he:dE prog.P g=true) (hlen:xs.length<=1048576) (hp:∀ x∈xs,Fn prog g (D.str x :: c.list) (fun rs=>rs=[.bool (p x)])) :
  Fn prog 80 [.sl false 1 (dl D.str xs),.clo g c] (fun rs=>rs=[.bool (xs.any p)]):=by
 refine a8 (fn:=f80) (by exact func80) c80 r80 (n:=9) (by rfl) (rv:=[.tmp 4]) (by rfl) (by simp) ?_
 unfold m80
 try simp only [wQ]
 simp only [↓wA,↓wC,wB,aF,aE,reduceEqDiff,reduceAdd,reduceSub,reduceIte,reduceCtorEq,Nat.reduceBEq,reduceLT]
 refine aG (w4 p g c xs hc he hlen hp) rfl rfl ?_
 simp only [pB,↓wA,↓wC,wB,aF,aE,reduceEqDiff,reduceAdd,reduceSub,reduceIte,reduceCtorEq,Nat.reduceBEq,reduceLT]
theorem aAL (L:List (List UInt8)) (hl:L.length<=1048576):Fn prog 45 [.sl false 1 (dl D.str L)] (fun rs=>rs=[.bool (gP L)]):=by
 have hW:=dB (L.length:Int) 1 8
 have hC:=sG (fun s=>!gV s) 81 .nil L rfl aNH hl (fun s _=>aAQ s)
 rw [aCC] at hC
 unfold gP
 cases hw:aU (L.length:Int) 1 8 with
 | false =>
  rw [hw] at hW
  refine a8 (fn:=f45) (by exact func45) c45 r45 (n:=11) (by rfl) (rv:=[.tmp 2]) (by rfl) (by simp) ?_
  unfold m45
  try simp only [wQ]
  repeat' (first|(simp only [aJ,↓wA,↓wC,wB,aF,aE,reduceEqDiff,reduceAdd,reduceSub,reduceIte,reduceCtorEq,Nat.reduceBEq,reduceLT])|(refine aG (hW) rfl rfl ?_)|(refine aH (hW) rfl rfl ?_)|((first|apply aB|apply aC|apply aA)<;>intro h<;>try simp only [h]))
  all_goals rfl
 | true =>
  rw [hw] at hW
  refine a8 (fn:=f45) (by exact func45) c45 r45 (n:=11) (by rfl) (rv:=[.tmp 2]) (by rfl) (by simp) ?_
  unfold m45
  try simp only [wQ]
  repeat' (first|(simp only [aJ,↓wA,↓wC,wB,aF,aE,reduceEqDiff,reduceAdd,reduceSub,reduceIte,reduceCtorEq,Nat.reduceBEq,reduceLT])|(refine aG (hW) rfl rfl ?_)|(refine aH (hW) rfl rfl ?_)|(refine aG (hC) rfl rfl ?_)|(refine aH (hC) rfl rfl ?_)|((first|apply aB|apply aC|apply aA)<;>intro h<;>try simp only [h]))
  all_goals simp
theorem aBS (L:List (List UInt8)) (hl:L.length<=1048576) (hx:∀ s∈L,s.length<=1048576):Fn prog 74 [.sl false 1 (dl D.str L)] (fun rs=>rs=[.bool (gP L)]):=by
 have hW:=gT (L.length:Int) 1 8
 unfold gP
 refine a8 (fn:=f74) (by exact func74) c74 r74 (n:=19) (by rfl) (rv:=[.tmp 2]) (by rfl) (by simp) ?_
 unfold m74
 try simp only [wQ]
 repeat' (first|(simp only [aD,↓wA,↓wC,wB,aF,aE,reduceEqDiff,reduceAdd,reduceSub,reduceIte,reduceCtorEq,Nat.reduceBEq,reduceLT])|((first|apply aB|apply aC|apply aA)<;>intro h<;>try simp only [h]))
 refine bL L.length (fun i:Nat=>⟨[(0,.d (.sl false 1 (dl D.str L))),(3,.d (.int .i64 i))],[]⟩) (fun i=>∀ j b,j < i->L[j]?=some b->gV b=true) (aN _ rfl ⟨⟨rfl,rfl⟩,⟨rfl,rfl⟩,trivial⟩) (fun j r hj=>by omega) ?_ ?_
 ·intro i hlt hinv hd h0
  obtain ⟨b,hb⟩:=bM hlt
  have hE:=aAE b (hx b (List.mem_of_getElem? hb))
  cases hbo:gV b with
  | false =>
   rw [hbo] at hE
   have:L.all gV=false:=List.all_eq_false.2 ⟨b,List.mem_of_getElem? hb,by rw [hbo]; simp⟩
   rw [this,Bool.and_false]
   repeat' (first|(simp only [aD,aJ,aX,hd,h0,hb,Int.toNat_natCast,Option.map_some,↓wA,↓wC,wB,aF,aE,reduceEqDiff,reduceAdd,reduceSub,reduceIte,reduceCtorEq,Nat.reduceBEq,reduceLT])|(refine aG (hE) rfl rfl ?_)|(refine aH (hE) rfl rfl ?_)|(with_reducible refine aI ?_ ?_; focus (simp only [bQ]; omega))|((first|apply aB|apply aC|apply aA)<;>intro h<;>try simp only [h]))
  | true =>
   rw [hbo] at hE
   repeat' (first|(simp only [aD,aJ,aX,hd,h0,hb,Int.toNat_natCast,Option.map_some,↓wA,↓wC,wB,aF,aE,reduceEqDiff,reduceAdd,reduceSub,reduceIte,reduceCtorEq,Nat.reduceBEq,reduceLT])|(refine aG (hE) rfl rfl ?_)|(refine aH (hE) rfl rfl ?_)|(with_reducible refine aI ?_ ?_; focus (simp only [bQ]; omega))|((first|apply aB|apply aC|apply aA)<;>intro h<;>try simp only [h]))
   refine cK (aN _ rfl ⟨⟨rfl,rfl⟩,⟨rfl,rfl⟩,trivial⟩) hlt fun j c hj hc=>?_
   by_cases e:j=i
   ·subst e; rw [hb] at hc; injection hc with hc; rw [<- hc]; exact hbo
   ·exact hinv j c (by omega) hc
 ·intro hinv hd
  have:L.all gV=true:=List.all_eq_true.2 fun b hb=>by
   obtain ⟨j,hj⟩:=List.getElem?_of_mem hb
   exact hinv j b (aK hj) hj
  rw [this,Bool.and_true]
  repeat' (first|(simp only [aD,aJ,hd,↓wA,↓wC,wB,aF,aE,reduceEqDiff,reduceAdd,reduceSub,reduceIte,reduceCtorEq,Nat.reduceBEq,reduceLT])|(refine aG (hW) rfl rfl ?_)|(refine aH (hW) rfl rfl ?_)|((first|apply aB|apply aC|apply aA)<;>intro h<;>try simp only [h]))
def dP (x:Cs):Bool:=aU x.i 1 999 && aU x.a 1 3 && aU x.d 0 20000 && decide ((x.h.length:Int)<=5) && (x.h.all (fun n=>aU n 1 9) && jM x.h)
theorem wV (n:Int):Fn prog 83 [.int .i64 n] (fun rs=>rs=[.bool (aU n 1 999)]):=by
 refine a8 (fn:=f83) (by exact func83) c83 r83 (n:=5) (by rfl) (rv:=[.tmp 2]) (by rfl) (by simp) ?_
 unfold m83
 try simp only [wQ]
 repeat' (first|(simp only [↓wA,↓wC,wB,aF,aE,reduceEqDiff,reduceAdd,reduceSub,reduceIte,reduceCtorEq,Nat.reduceBEq,reduceLT])|(refine aG (dB _ _ _) rfl rfl ?_)|(refine aH (dB _ _ _) rfl rfl ?_)|((first|apply aB|apply aC|apply aA)<;>intro h<;>try simp only [h]))
theorem aEK (n:Int):Fn prog 84 [.int .i64 n] (fun rs=>rs=[.bool (aU n 1 3)]):=by
 refine a8 (fn:=f84) (by exact func84) c84 r84 (n:=5) (by rfl) (rv:=[.tmp 2]) (by rfl) (by simp) ?_
 unfold m84
 try simp only [wQ]
 repeat' (first|(simp only [↓wA,↓wC,wB,aF,aE,reduceEqDiff,reduceAdd,reduceSub,reduceIte,reduceCtorEq,Nat.reduceBEq,reduceLT])|(refine aG (dB _ _ _) rfl rfl ?_)|(refine aH (dB _ _ _) rfl rfl ?_)|((first|apply aB|apply aC|apply aA)<;>intro h<;>try simp only [h]))
theorem nJ (n:Int):Fn prog 57 [.int .i64 n] (fun rs=>rs=[.bool (aU n 1 9)]):=by
 refine a8 (fn:=f57) (by exact func57) c57 r57 (n:=5) (by rfl) (rv:=[.tmp 2]) (by rfl) (by simp) ?_
 unfold m57
 try simp only [wQ]
 repeat' (first|(simp only [↓wA,↓wC,wB,aF,aE,reduceEqDiff,reduceAdd,reduceSub,reduceIte,reduceCtorEq,Nat.reduceBEq,reduceLT])|(refine aG (dB _ _ _) rfl rfl ?_)|(refine aH (dB _ _ _) rfl rfl ?_)|((first|apply aB|apply aC|apply aA)<;>intro h<;>try simp only [h]))
theorem aBI (n:Int):Fn prog 87 [.int .i64 n] (fun rs=>rs=[.bool (!aU n 1 9)]):=by
 refine a8 (fn:=f87) (by exact func87) c87 r87 (n:=6) (by rfl) (rv:=[.tmp 2]) (by rfl) (by simp) ?_
 unfold m87
 try simp only [wQ]
 repeat' (first|(simp only [↓wA,↓wC,wB,aF,aE,reduceEqDiff,reduceAdd,reduceSub,reduceIte,reduceCtorEq,Nat.reduceBEq,reduceLT])|(refine aG (nJ n) rfl rfl ?_)|(refine aH (nJ n) rfl rfl ?_)|((first|apply aB|apply aC|apply aA)<;>intro h<;>try simp only [h]))
theorem aDM (x:Cs) (hx:x.ok0):Fn prog 46 [x.s] (fun rs=>rs=[.bool (dP x)]):=by
 have hR:=wV x.i
 have hA:=aEK x.a
 have hD:=aAo x.d
 have hS:=yR x.h hx
 have hC:=sC (fun n=>!aU n 1 9) 87 .nil x.h rfl aMB hx (fun n _=>aBI n)
 rw [aCC] at hC
 unfold dP
 generalize aU x.i 1 999=b1 at *
 generalize aU x.a 1 3=b2 at *
 generalize aU x.d 0 20000=b3 at *
 generalize (x.h.all fun n=>aU n 1 9)=b4 at *
 generalize jM x.h=b5 at *
 refine a8 (fn:=f46) (by exact func46) c46 r46 (n:=33) (by rfl) (rv:=[.tmp 2]) (by rfl) (by simp) ?_
 unfold m46
 try simp only [wQ]
 simp only [Cs.s,Cs.p]
 repeat' (first|(simp only [aS,aD,aJ,↓wA,↓wC,wB,aF,aE,reduceEqDiff,reduceAdd,reduceSub,reduceIte,reduceCtorEq,Nat.reduceBEq,reduceLT])|(refine aG (hR) rfl rfl ?_)|(refine aH (hR) rfl rfl ?_)|(refine aG (hA) rfl rfl ?_)|(refine aH (hA) rfl rfl ?_)|(refine aG (hD) rfl rfl ?_)|(refine aH (hD) rfl rfl ?_)|(refine aG (hS) rfl rfl ?_)|(refine aH (hS) rfl rfl ?_)|(refine aG (hC) rfl rfl ?_)|(refine aH (hC) rfl rfl ?_)|((first|apply aB|apply aC|apply aA)<;>intro h<;>try simp only [h]))
 all_goals (clear hR hA hD hS hC; simp_all)
theorem aBq (x:Cs) (hx:x.ok0):Fn prog 75 [x.s] (fun rs=>rs=[.bool (dP x)]):=by
 have hR:=gT x.i 1 999
 have hA:=gT x.a 1 3
 have hD:=qV x.d
 have hS:=aAu x.h 1 9 hx
 unfold dP
 generalize aU x.i 1 999=b1 at *
 generalize aU x.a 1 3=b2 at *
 generalize aU x.d 0 20000=b3 at *
 generalize ((x.h.all fun n=>aU n 1 9) && jM x.h)=b4 at *
 refine a8 (fn:=f75) (by exact func75) c75 r75 (n:=27) (by rfl) (rv:=[.tmp 2]) (by rfl) (by simp) ?_
 unfold m75
 try simp only [wQ]
 simp only [Cs.s,Cs.p]
 repeat' (first|(simp only [aS,aD,aJ,↓wA,↓wC,wB,aF,aE,reduceEqDiff,reduceAdd,reduceSub,reduceIte,reduceCtorEq,Nat.reduceBEq,reduceLT])|(refine aG (hR) rfl rfl ?_)|(refine aH (hR) rfl rfl ?_)|(refine aG (hA) rfl rfl ?_)|(refine aH (hA) rfl rfl ?_)|(refine aG (hD) rfl rfl ?_)|(refine aH (hD) rfl rfl ?_)|(refine aG (hS) rfl rfl ?_)|(refine aH (hS) rfl rfl ?_)|((first|apply aB|apply aC|apply aA)<;>intro h<;>try simp only [h]))
 all_goals (clear hR hA hD hS; simp_all)
end Go.Pe.Tryz
set_option maxRecDepth 100000
set_option maxHeartbeats 4000000
set_option linter.all false
namespace Go.Pe.Tryz
open Nat (reduceEqDiff reduceAdd reduceSub reduceLT)
open Go.Proofs.Tryz
theorem uF {x:Cs} {K:SV->Prop}:aT 0 0 (.d (.ptr x.s)) K=K (.d (.ptr (.int .i64 x.i))):=by simp [Cs.s,Cs.p,aT,D.pre,D.nth,D.size]
theorem aI7 {x:Cs} {K:SV->Prop}:aT 1 1 (.d (.ptr x.s)) K=K (.d (.ptr (.int .i64 x.a))):=by simp [Cs.s,Cs.p,aT,D.pre,D.nth,D.size]
theorem aBr {x:Cs} {K:SV->Prop}:aT 2 2 (.d (.ptr x.s)) K=K (.d (.ptr (.int .i64 x.d))):=by simp [Cs.s,Cs.p,aT,D.pre,D.nth,D.size]
theorem aFZ {x:Cs} {K:SV->Prop}:aT 3 3 (.d (.ptr x.s)) K=K (.d (.ptr (.sl false 1 (dl iD x.h)))):=by simp [Cs.s,Cs.p,aT,D.pre,D.nth,D.size]
theorem eW {x:Cs}:dG [0] x.s=0:=rfl
theorem jK {x:Cs}:dG [1] x.s=1:=rfl
theorem iQ {x:Cs}:dG [2] x.s=2:=rfl
theorem gE {x:Cs}:dG [3] x.s=3:=rfl
theorem eV {x:Cs}:fC [0] x.s=some (.int .i64 x.i):=rfl
theorem jI {x:Cs}:fC [1] x.s=some (.int .i64 x.a):=rfl
theorem iU {x:Cs}:fC [2] x.s=some (.int .i64 x.d):=rfl
theorem fZ {x:Cs}:fC [3] x.s=some (.sl false 1 (dl iD x.h)):=rfl
theorem Off.s_isV (o:Off):o.s.isV=true:=rfl
theorem Off.s_size (o:Off):o.s.size=5:=rfl
theorem Off.o_isV (o:Off):o.o.isV=true:=rfl
theorem Off.o_size (o:Off):o.o.size=5:=rfl
def ltC (xs:List Cs) (i:Nat) (x:Cs):Bool:=match i with
 | 0=>true
 | k + 1=>match xs[k]? with
  | some y=>decide (y.i < x.i)
  | none=>true
def uG (xs:List Cs) (i:Nat):Bool:=match xs[i]? with
 | some x=>dP x && ltC xs i x
 | none=>false
theorem n8 {xs:List Cs} {i:Nat} {x:Cs} (hr:xs[i]?=some x):uG xs i=(dP x && ltC xs i x):=by
 unfold uG; rw [hr]
def mM (xs:List Cs):Bool:=(List.range xs.length).all (uG xs)
theorem lB {xs:List Cs} {i:Nat} (hi:i < xs.length) (h:uG xs i=false):mM xs=false:=by
 refine List.all_eq_false.2 ⟨i,List.mem_range.2 hi,by rw [h]; simp⟩
theorem nU {xs:List Cs} (h:∀ j,j < xs.length->uG xs j=true):mM xs=true :=
 List.all_eq_true.2 fun j hj=>h j (List.mem_range.1 hj)
def vL (L:List (List UInt8)):Bool:=!decide ((0:Int) < (L.length:Int)) || gP L
def mK (o:Off):Bool:=aU o.day 0 20000 && decide ((o.cs.length:Int)<=6) && aU o.kept 0 999 && aU o.moved 0 999 && vL o.led
def bN (o:Off):Bool:=mK o && mM o.cs
theorem aIG {xs:List Cs} {i:Nat} {x:Cs} (hlt:i < xs.length):(decide ((0:Int) < (i:Int))=false/\ltC xs i x=true)\/∃ y,decide ((0:Int) < (i:Int))=true/\(0:Int)<=(i:Int) - 1/\xs[((i:Int) - 1).toNat]?=some y/\decide (x.i<=y.i)=!ltC xs i x:=by
 cases i with
 | zero=>exact .inl ⟨rfl,rfl⟩
 | succ k =>
  obtain ⟨y,hy⟩:=bM (show k < xs.length by omega)
  refine .inr ⟨y,decide_eq_true (by omega),by omega,?_,?_⟩
  ·rw [show (((k + 1:Nat):Int) - 1).toNat=k by omega]; exact hy
  ·have:ltC xs (k + 1) x=decide (y.i < x.i):=by simp only [ltC,hy]
   rw [this]
   by_cases h:y.i < x.i
   ·rw [decide_eq_true h,decide_eq_false (by omega)]; rfl
   ·rw [decide_eq_false h,decide_eq_true (by omega)]; rfl
theorem fW (o:Off) (ho:o.ok0):Fn prog 10 [o.s] (fun rs=>rs=[.bool (bN o)]):=by
 have hDay:=aAo o.day
 have hK:=dB o.kept 0 999
 have hM:=dB o.moved 0 999
 have hL:=aAL o.led ho.2.1
 have hlen:=ho.1.1
 have hh:mK o=(aU o.day 0 20000 && decide ((o.cs.length:Int)<=6) && aU o.kept 0 999 && aU o.moved 0 999 && vL o.led):=rfl
 unfold vL at hh
 unfold bN
 have body:mK o=true->Fn prog 10 [o.s] (fun rs=>rs=[.bool (mM o.cs)]):=by
  intro hho
  rw [hh] at hho
  simp only [Bool.and_eq_true] at hho
  obtain ⟨⟨⟨⟨q1,q2⟩,q3⟩,q4⟩,q5⟩:=hho
  rw [q1] at hDay
  rw [q3] at hK
  rw [q4] at hM
  have q2':=of_decide_eq_true q2
  have e2:decide ((6:Int) < (o.cs.length:Int))=false:=decide_eq_false (by omega)
  generalize hlg:gP o.led=b5 at *
  refine a8 (fn:=f10) (by exact func10) c10 r10 (n:=67) (by rfl) (rv:=[.tmp 2]) (by rfl) (by simp) ?_
  unfold m10
  try simp only [wQ]
  simp only [Off.s,bD]
  repeat' (first|(simp only [aM,aL,aD,aJ,e2,↓wA,↓wC,wB,aF,aE,reduceEqDiff,reduceAdd,reduceSub,reduceIte,reduceCtorEq,Nat.reduceBEq,reduceLT])|(refine aG (hDay) rfl rfl ?_)|(refine aH (hDay) rfl rfl ?_)|(refine aG (hK) rfl rfl ?_)|(refine aH (hK) rfl rfl ?_)|(refine aG (hM) rfl rfl ?_)|(refine aH (hM) rfl rfl ?_)|(refine aG (hL) rfl rfl ?_)|(refine aH (hL) rfl rfl ?_)|((first|apply aB|apply aC|apply aA)<;>intro h<;>try simp only [h]))
  any_goals (exfalso; clear hDay hK hM hL; simp_all; done)
  all_goals
   refine bL o.cs.length (fun i:Nat=>⟨[(1,.ptr 0 0 []),(40,.d (.sl false 4 (dl Cs.s o.cs))),(41,.d (.int .i64 o.cs.length)),(42,.d (.int .i64 i))],[.box o.s]⟩) (fun i=>∀ j,j < i->uG o.cs j=true) (aN _ rfl ⟨⟨rfl,rfl⟩,⟨rfl,rfl⟩,⟨rfl,rfl⟩,⟨rfl,rfl⟩,trivial⟩) (fun j hj=>by omega) ?_ ?_
   ·intro i hlt hinv hd h0
    obtain ⟨x,hr⟩:=bM hlt
    have hst:=n8 hr
    have hok:=aDM x (ho.1.2 x (List.mem_of_getElem? hr))
    simp only [Off.s,bD]
    rcases aIG (x:=x) hlt with ⟨hg,hl⟩|⟨y,hg,h1,hy,hq⟩
    ·rw [hl,Bool.and_true] at hst
     repeat' (first|(simp only [aM,aL,aJ,aX,hd,h0,hg,Int.toNat_natCast,hr,Option.map_some,↓fS,Cs.s_noOwn,Cs.s_isV,Cs.s_size,Cs.s_unown,aD,↓wA,↓wC,wB,aF,aE,reduceEqDiff,reduceAdd,reduceSub,reduceIte,reduceCtorEq,Nat.reduceBEq,reduceLT])|(refine aG (hok) rfl rfl ?_)|(refine aH (hok) rfl rfl ?_)|(with_reducible refine aI ?_ ?_; focus (simp only [bQ]; omega))|((first|apply aB|apply aC|apply aA)<;>intro h<;>try simp only [h]))
     all_goals first
      |(refine cK (aN _ rfl ⟨⟨rfl,rfl⟩,⟨rfl,rfl⟩,⟨rfl,rfl⟩,⟨rfl,rfl⟩,trivial⟩) hlt (qT hinv ?_); focus (clear hok; rw [hst]; simp_all; done))
      |(refine (congrArg (fun b=>[D.bool b]) (lB hlt ?_)).symm; focus (clear hok; rw [hst]; simp_all; done))
      | trace_state
    ·repeat' (first|(simp only [aM,aL,aJ,aX,hd,h0,hg,h1,hy,hq,Int.toNat_natCast,hr,Option.map_some,↓fS,↓uF,eW,eV,Cs.s_noOwn,Cs.s_isV,Cs.s_size,Cs.s_unown,aD,↓wA,↓wC,wB,aF,aE,reduceEqDiff,reduceAdd,reduceSub,reduceIte,reduceCtorEq,Nat.reduceBEq,reduceLT])|(refine aG (hok) rfl rfl ?_)|(refine aH (hok) rfl rfl ?_)|(with_reducible refine aI ?_ ?_; focus (simp only [bQ]; omega))|((first|apply aB|apply aC|apply aA)<;>intro h<;>try simp only [h]))
     all_goals first
      |(refine cK (aN _ rfl ⟨⟨rfl,rfl⟩,⟨rfl,rfl⟩,⟨rfl,rfl⟩,⟨rfl,rfl⟩,trivial⟩) hlt (qT hinv ?_); focus (clear hok; rw [hst]; simp_all; done))
      |(refine (congrArg (fun b=>[D.bool b]) (lB hlt ?_)).symm; focus (clear hok; rw [hst]; simp_all; done))
      | trace_state
   ·intro hinv hd
    have hall:=nU hinv
    rw [hall]
    simp only [Off.s,bD]
    repeat' (first|(simp only [aM,aL,aJ,hd,aD,↓wA,↓wC,wB,aF,aE,reduceEqDiff,reduceAdd,reduceSub,reduceIte,reduceCtorEq,Nat.reduceBEq,reduceLT])|((first|apply aB|apply aC|apply aA)<;>intro h<;>try simp only [h]))
 cases hho:mK o with
 | true=>simpa using body hho
 | false =>
  rw [hh] at hho
  rw [Bool.false_and]
  generalize hlg:gP o.led=b5 at *
  generalize aU o.day 0 20000=b1 at *
  generalize aU o.kept 0 999=b3 at *
  generalize aU o.moved 0 999=b4 at *
  refine a8 (fn:=f10) (by exact func10) c10 r10 (n:=67) (by rfl) (rv:=[.tmp 2]) (by rfl) (by simp) ?_
  unfold m10
  try simp only [wQ]
  simp only [Off.s,bD]
  repeat' (first|(simp only [aM,aL,aD,aJ,↓wA,↓wC,wB,aF,aE,reduceEqDiff,reduceAdd,reduceSub,reduceIte,reduceCtorEq,Nat.reduceBEq,reduceLT])|(refine aG (hDay) rfl rfl ?_)|(refine aH (hDay) rfl rfl ?_)|(refine aG (hK) rfl rfl ?_)|(refine aH (hK) rfl rfl ?_)|(refine aG (hM) rfl rfl ?_)|(refine aH (hM) rfl rfl ?_)|(refine aG (hL) rfl rfl ?_)|(refine aH (hL) rfl rfl ?_)|((first|apply aB|apply aC|apply aA)<;>intro h<;>try simp only [h]))
  all_goals first
   | rfl
   |(exfalso; clear hDay hK hM hL body; simp_all; done)
   |(exfalso; clear hDay hK hM hL body; simp_all; omega)
theorem eF (o:Off) (ho:o.ok0):Fn prog 40 [o.s] (fun rs=>rs=[.bool (bN o)]):=by
 have hDay:=qV o.day
 have hK:=gT o.kept 0 999
 have hM:=gT o.moved 0 999
 have hL:=aBS o.led ho.2.1 ho.2.2
 have hlen:=ho.1.1
 have hh:mK o=(aU o.day 0 20000 && decide ((o.cs.length:Int)<=6) && aU o.kept 0 999 && aU o.moved 0 999 && vL o.led):=rfl
 unfold vL at hh
 unfold bN
 have body:mK o=true->Fn prog 40 [o.s] (fun rs=>rs=[.bool (mM o.cs)]):=by
  intro hho
  rw [hh] at hho
  simp only [Bool.and_eq_true] at hho
  obtain ⟨⟨⟨⟨q1,q2⟩,q3⟩,q4⟩,q5⟩:=hho
  rw [q1] at hDay
  rw [q3] at hK
  rw [q4] at hM
  have q2':=of_decide_eq_true q2
  have e2:decide ((6:Int) < (o.cs.length:Int))=false:=decide_eq_false (by omega)
  generalize hlg:gP o.led=b5 at *
  refine a8 (fn:=f40) (by exact func40) c40 r40 (n:=72) (by rfl) (rv:=[.tmp 2]) (by rfl) (by simp) ?_
  unfold m40
  try simp only [wQ]
  simp only [Off.s,bD]
  repeat' (first|(simp only [aM,aL,aD,aJ,e2,↓wA,↓wC,wB,aF,aE,reduceEqDiff,reduceAdd,reduceSub,reduceIte,reduceCtorEq,Nat.reduceBEq,reduceLT])|(refine aG (hDay) rfl rfl ?_)|(refine aH (hDay) rfl rfl ?_)|(refine aG (hK) rfl rfl ?_)|(refine aH (hK) rfl rfl ?_)|(refine aG (hM) rfl rfl ?_)|(refine aH (hM) rfl rfl ?_)|(refine aG (hL) rfl rfl ?_)|(refine aH (hL) rfl rfl ?_)|((first|apply aB|apply aC|apply aA)<;>intro h<;>try simp only [h]))
  any_goals (exfalso; clear hDay hK hM hL; simp_all; done)
  all_goals
   refine bL o.cs.length (fun i:Nat=>⟨[(1,.ptr 0 0 []),(3,.d (.int .i64 i))],[.box o.s]⟩) (fun i=>∀ j,j < i->uG o.cs j=true) (aN _ rfl ⟨⟨rfl,rfl⟩,⟨rfl,rfl⟩,trivial⟩) (fun j hj=>by omega) ?_ ?_
   ·intro i hlt hinv hd h0
    obtain ⟨x,hr⟩:=bM hlt
    have hst:=n8 hr
    have hok:=aBq x (ho.1.2 x (List.mem_of_getElem? hr))
    simp only [Off.s,bD]
    rcases aIG (x:=x) hlt with ⟨hg,hl⟩|⟨y,hg,h1,hy,hq⟩
    ·rw [hl,Bool.and_true] at hst
     repeat' (first|(simp only [aM,aL,aJ,aX,hd,h0,hg,Int.toNat_natCast,hr,Option.map_some,↓fS,Cs.s_noOwn,Cs.s_isV,Cs.s_size,Cs.s_unown,aD,↓wA,↓wC,wB,aF,aE,reduceEqDiff,reduceAdd,reduceSub,reduceIte,reduceCtorEq,Nat.reduceBEq,reduceLT])|(refine aG (hok) rfl rfl ?_)|(refine aH (hok) rfl rfl ?_)|(with_reducible refine aI ?_ ?_; focus (simp only [bQ]; omega))|((first|apply aB|apply aC|apply aA)<;>intro h<;>try simp only [h]))
     all_goals first
      |(refine cK (aN _ rfl ⟨⟨rfl,rfl⟩,⟨rfl,rfl⟩,trivial⟩) hlt (qT hinv ?_); focus (clear hok; rw [hst]; simp_all; done))
      |(refine (congrArg (fun b=>[D.bool b]) (lB hlt ?_)).symm; focus (clear hok; rw [hst]; simp_all; done))
      | trace_state
    ·repeat' (first|(simp only [aM,aL,aJ,aX,hd,h0,hg,h1,hy,hq,Int.toNat_natCast,hr,Option.map_some,↓fS,↓uF,eW,eV,Cs.s_noOwn,Cs.s_isV,Cs.s_size,Cs.s_unown,aD,↓wA,↓wC,wB,aF,aE,reduceEqDiff,reduceAdd,reduceSub,reduceIte,reduceCtorEq,Nat.reduceBEq,reduceLT])|(refine aG (hok) rfl rfl ?_)|(refine aH (hok) rfl rfl ?_)|(with_reducible refine aI ?_ ?_; focus (simp only [bQ]; omega))|((first|apply aB|apply aC|apply aA)<;>intro h<;>try simp only [h]))
     all_goals first
      |(refine cK (aN _ rfl ⟨⟨rfl,rfl⟩,⟨rfl,rfl⟩,trivial⟩) hlt (qT hinv ?_); focus (clear hok; rw [hst]; simp_all; done))
      |(refine (congrArg (fun b=>[D.bool b]) (lB hlt ?_)).symm; focus (clear hok; rw [hst]; simp_all; done))
      | trace_state
   ·intro hinv hd
    have hall:=nU hinv
    rw [hall]
    simp only [Off.s,bD]
    repeat' (first|(simp only [aM,aL,aJ,hd,aD,↓wA,↓wC,wB,aF,aE,reduceEqDiff,reduceAdd,reduceSub,reduceIte,reduceCtorEq,Nat.reduceBEq,reduceLT])|((first|apply aB|apply aC|apply aA)<;>intro h<;>try simp only [h]))
 cases hho:mK o with
 | true=>simpa using body hho
 | false =>
  rw [hh] at hho
  rw [Bool.false_and]
  generalize hlg:gP o.led=b5 at *
  generalize aU o.day 0 20000=b1 at *
  generalize aU o.kept 0 999=b3 at *
  generalize aU o.moved 0 999=b4 at *
  refine a8 (fn:=f40) (by exact func40) c40 r40 (n:=72) (by rfl) (rv:=[.tmp 2]) (by rfl) (by simp) ?_
  unfold m40
  try simp only [wQ]
  simp only [Off.s,bD]
  repeat' (first|(simp only [aM,aL,aD,aJ,↓wA,↓wC,wB,aF,aE,reduceEqDiff,reduceAdd,reduceSub,reduceIte,reduceCtorEq,Nat.reduceBEq,reduceLT])|(refine aG (hDay) rfl rfl ?_)|(refine aH (hDay) rfl rfl ?_)|(refine aG (hK) rfl rfl ?_)|(refine aH (hK) rfl rfl ?_)|(refine aG (hM) rfl rfl ?_)|(refine aH (hM) rfl rfl ?_)|(refine aG (hL) rfl rfl ?_)|(refine aH (hL) rfl rfl ?_)|((first|apply aB|apply aC|apply aA)<;>intro h<;>try simp only [h]))
  all_goals first
   | rfl
   |(exfalso; clear hDay hK hM hL body; simp_all; done)
   |(exfalso; clear hDay hK hM hL body; simp_all; omega)
theorem tI (o:Off) (ho:o.ok0):Fn prog 11 [o.s] (fun rs=>rs=[.bool (bN o)]):=by
 have hG:=eF o ho
 refine a8 (fn:=f11) (by exact func11) c11 r11 (n:=5) (by rfl) (rv:=[.tmp 2]) (by rfl) (by simp) ?_
 unfold m11
 try simp only [wQ]
 repeat' (first|(simp only [Off.s_noOwn,Off.s_isV,↓bG,aD,↓wA,↓wC,wB,aF,aE,reduceEqDiff,reduceAdd,reduceSub,reduceIte,reduceCtorEq,Nat.reduceBEq,reduceLT])|(refine aG hG (by simp [bE,bV,Off.s_unown]) rfl ?_)|(refine aH hG (by simp [bE,bV,Off.s_unown]) rfl ?_)|((first|apply aB|apply aC|apply aA)<;>intro h<;>try simp only [h]))
def Off.raw (o:Off):Prop:=o.cs.length<=maxLen/\(∀ x∈o.cs,x.h.length<=maxLen)/\o.led.length<=maxLen/\∀ s∈o.led,s.length<=maxLen
end Go.Pe.Tryz
set_option maxRecDepth 100000
set_option maxHeartbeats 4000000
set_option linter.all false
namespace Go.Pe.Tryz
open Nat (reduceEqDiff reduceAdd reduceSub reduceLT)
open Go.Proofs.Tryz
theorem qO {x:Off}:dG [1] x.s=1:=rfl
theorem qX {x:Off}:fC [1] x.s=some (.sl false 4 (dl Cs.s x.cs)):=rfl
theorem eH {x:Off} {K:SV->Prop}:aT 0 0 (.d (.ptr x.s)) K=K (.d (.ptr (.int .i64 x.day))):=by simp [Off.s,bD,aT,D.pre,D.nth,D.size]
def iX (p:Cs->Bool) (xs:List Cs):List Int:=(xs.filter p).map Cs.i
theorem aBy {p:Cs->Bool} {xs:List Cs} {i:Nat} {x:Cs} (hr:xs[i]?=some x):iX p (xs.take (i + 1))=iX p (xs.take i) ++ (if p x=true then [x.i] else []):=by
 unfold iX
 rw [fX hr,List.filter_append,List.map_append]
 cases h:p x<;>simp [h]
theorem x2 (p:Cs->Bool) (xs:List Cs):(iX p xs).length<=xs.length:=by
 unfold iX
 rw [List.length_map]
 exact List.length_filter_le _ _
theorem eX (V:List Int) (n:Int):(dl iD V).app (D.cons (.int .i64 n) .nil)=dl iD (V ++ [n]):=eZ (f:=iD) V n
theorem vX (p:Cs->Bool) (g:Nat) (c:D) (o:Off) (ho:o.ok0) (hc:c.caps=true) (he:dE prog.P g=true) (hp:∀ x∈o.cs,Fn prog g (x.s :: c.list) (fun rs=>rs=[.bool (p x)])):Fn prog 47 [o.s,.clo g c] (fun rs=>rs=[.sl true 1 (dl iD (iX p o.cs))]):=by
 have hlen:=ho.1.1
 refine a8 (fn:=f47) (by exact func47) c47 r47 (n:=25) (by rfl) (rv:=[.tmp 4]) (by rfl) (by simp) ?_
 unfold m47
 try simp only [wQ]
 repeat' (first|(simp only [Off.s_noOwn,Off.s_isV,aD,aJ,aM,qO,qX,↓wA,↓wC,wB,aF,aE,reduceEqDiff,reduceAdd,reduceSub,reduceIte,reduceCtorEq,Nat.reduceBEq,reduceLT])|((first|apply aB|apply aC|apply aA)<;>intro h<;>try simp only [h]))
 refine aA8 [(5,1)] o.cs.length (fun i:Nat=>⟨[(1,.d (.clo g c)),(5,.own 1),(9,.d (.sl false 4 (dl Cs.s o.cs))),(10,.d (.int .i64 o.cs.length)),(11,.d (.int .i64 i))],[.box o.s,.val (.sl true 1 (dl iD (iX p (o.cs.take i))))]⟩) (fun _=>True) ⟨rfl,trivial⟩ ?_ trivial ?_ ?_
 ·exact (aN _ rfl ⟨⟨rfl,rfl⟩,⟨rfl,rfl⟩,⟨rfl,rfl⟩,⟨rfl,rfl⟩,⟨rfl,rfl⟩,trivial⟩)
 ·intro i hlt _ hd h0
  obtain ⟨x,hr⟩:=bM hlt
  have hW:=hp x (List.mem_of_getElem? hr)
  have hsn:=aBy (p:=p) hr
  have hvl:=x2 p (o.cs.take i)
  rw [List.length_take,Nat.min_eq_left (by omega)] at hvl
  repeat' (first|(simp only [aJ,hd,h0,aX,Int.toNat_natCast,hr,Option.map_some,aD,↓fS,Cs.s_isV,Cs.s_size,Cs.s_noOwn,↓wA,↓wC,wB,aF,aE,reduceEqDiff,reduceAdd,reduceSub,reduceIte,reduceCtorEq,Nat.reduceBEq,reduceLT])|((first|apply aB|apply aC|apply aA)<;>intro h<;>try simp only [h]))
  refine o6 (ds:=[x.s]) hW he hc (by simp [bE,bV,nI,Cs.s_unown]) rfl ?_
  cases hw:p x with
  | false =>
   rw [hw] at hsn
   repeat' (first|(simp only [aD,↓wA,↓wC,wB,aF,aE,reduceEqDiff,reduceAdd,reduceSub,reduceIte,reduceCtorEq,Nat.reduceBEq,reduceLT])|(with_reducible refine aI ?_ ?_; focus (simp only [bQ]; omega))|((first|apply aB|apply aC|apply aA)<;>intro h<;>try simp only [h]))
   refine ⟨i + 1,?_,by omega,by omega⟩
   rw [hsn]
   simp only [Bool.false_eq_true,if_false,List.append_nil]
   exact (aN _ rfl ⟨⟨rfl,rfl⟩,⟨rfl,rfl⟩,⟨rfl,rfl⟩,⟨rfl,rfl⟩,⟨rfl,rfl⟩,trivial⟩)
  | true =>
   rw [hw] at hsn
   repeat' (first|(simp only [aJ,aD,eW,eV,eX,↓wA,↓wC,wB,aF,aE,reduceEqDiff,reduceAdd,reduceSub,reduceIte,reduceCtorEq,Nat.reduceBEq,reduceLT])|(with_reducible refine aI ?_ ?_; focus (simp only [bQ]; omega))|(with_reducible refine aQ ?_ ?_; focus omega)|(with_reducible refine aQ ?_ ?_; focus (simp; done))|((first|apply aB|apply aC|apply aA)<;>intro h<;>try simp only [h]))
   refine ⟨i + 1,?_,by omega,by omega⟩
   rw [hsn]
   simp only [if_true]
   exact (aN _ rfl ⟨⟨rfl,rfl⟩,⟨rfl,rfl⟩,⟨rfl,rfl⟩,⟨rfl,rfl⟩,⟨rfl,rfl⟩,trivial⟩)
 ·intro _ hd
  repeat' (first|(simp only [hd,List.take_length,↓wA,↓wC,wB,aF,aE,reduceEqDiff,reduceAdd,reduceSub,reduceIte,reduceCtorEq,Nat.reduceBEq,reduceLT])|((first|apply aB|apply aC|apply aA)<;>intro h<;>try simp only [h]))
def aC3 (o:Off) (x:Cs):Bool:=decide (x.d<=o.day)
def aC9 (b:Bool) (p:Cs->Bool) (o:Off):List D:=if bN o=true then [.sl b 1 (dl iD (iX p o.cs)),.bool true] else [.sl true 1 .nil,.bool false]
theorem aDH (o:Off) (x:Cs):Fn prog 48 [x.s,.ptr o.s] (fun rs=>rs=[.bool (aC3 o x)]):=by
 refine a8 (fn:=f48) (by exact func48) c48 r48 (n:=9) (by rfl) (rv:=[.tmp 3]) (by rfl) (by simp) ?_
 unfold m48
 try simp only [wQ]
 repeat' (first|(simp only [aD,Cs.s_noOwn,Cs.s_isV,iQ,iU,eH,↓wA,↓wC,wB,aF,aE,reduceEqDiff,reduceAdd,reduceSub,reduceIte,reduceCtorEq,Nat.reduceBEq,reduceLT])|((first|apply aB|apply aC|apply aA)<;>intro h<;>try simp only [h]))
 all_goals rfl
theorem aBO (o:Off) (ho:o.ok0):Fn prog 12 [o.s] (fun rs=>rs=aC9 true (aC3 o) o):=by
 have hV:=fW o ho
 have h:=vX (aC3 o) 48 (.cons (.ptr o.s) .nil) o ho rfl aMp (fun x _=>aDH o x)
 unfold aC9
 cases hv:bN o with
 | false =>
  rw [hv] at hV
  refine a8 (fn:=f12) (by exact func12) c12 r12 (n:=10) (by rfl) (rv:=[.tmp 2,.tmp 3]) (by rfl) (by simp) ?_
  unfold m12
  try simp only [wQ]
  repeat' (first|(simp only [Off.s_noOwn,Off.s_isV,↓bG,aD,↓wA,↓wC,wB,aF,aE,reduceEqDiff,reduceAdd,reduceSub,reduceIte,reduceCtorEq,Nat.reduceBEq,reduceLT])|(refine aG hV (by simp [bE,bV,Off.s_unown]) rfl ?_)|((first|apply aB|apply aC|apply aA)<;>intro h<;>try simp only [h]))
  all_goals (refine oB 1 ?_; simp)
 | true =>
  rw [hv] at hV
  refine dL (ps:=[[1,1,0]]) (fn:=f12) (by exact func12) c12 r12 (n:=10) (by rfl) (rv:=[.tmp 2,.tmp 3]) (by rfl) (by simp) ?_
  unfold m12
  try simp only [wQ]
  simp only [cI,dD]
  repeat' (first|(simp only [Off.s_noOwn,Off.s_isV,↓bG,aD,↓wA,↓wC,wB,aF,aE,reduceEqDiff,reduceAdd,reduceSub,reduceIte,reduceCtorEq,Nat.reduceBEq,reduceLT])|(refine aG hV (by simp [bE,bV,Off.s_unown]) rfl ?_)|((first|apply aB|apply aC|apply aA)<;>intro h<;>try simp only [h]))
  refine aR (dU 0 rfl) ?_
  repeat' (first|(simp only [Off.s_noOwn,Off.s_isV,↓bG,aD,Off.s_unown,↓wA,↓wC,wB,aF,aE,reduceEqDiff,reduceAdd,reduceSub,reduceIte,reduceCtorEq,Nat.reduceBEq,reduceLT])|(refine aG h (by simp [bE,bV,Off.s_unown]) rfl ?_)|((first|apply aB|apply aC|apply aA)<;>intro h<;>try simp only [h]))
  all_goals trace_state
def y4 (o:Off) (x:Cs):Bool:=decide (x.d<=o.day) && decide (x.a=3) && decide (0 < (x.h.length:Int))
theorem aDC (o:Off) (x:Cs):Fn prog 49 [x.s,.ptr o.s] (fun rs=>rs=[.bool (y4 o x)]):=by
 unfold y4
 cases h1:decide (x.d<=o.day)<;>cases h2:decide (x.a=3)
 all_goals
  refine a8 (fn:=f49) (by exact func49) c49 r49 (n:=20) (by rfl) (rv:=[.tmp 3]) (by rfl) (by simp) ?_
  unfold m49
  try simp only [wQ]
  repeat' (first|(simp only [h1,h2,aJ,aS,aD,Cs.s_noOwn,Cs.s_isV,jK,jI,iQ,iU,gE,fZ,eH,↓wA,↓wC,wB,aF,aE,reduceEqDiff,reduceAdd,reduceSub,reduceIte,reduceCtorEq,Nat.reduceBEq,reduceLT])|((first|apply aB|apply aC|apply aA)<;>intro h<;>try simp only [h]))
  all_goals simp
theorem aB0 (o:Off) (ho:o.ok0):Fn prog 13 [o.s] (fun rs=>rs=aC9 true (y4 o) o):=by
 have hV:=fW o ho
 have h:=vX (y4 o) 49 (.cons (.ptr o.s) .nil) o ho rfl aMR (fun x _=>aDC o x)
 unfold aC9
 cases hv:bN o with
 | false =>
  rw [hv] at hV
  refine a8 (fn:=f13) (by exact func13) c13 r13 (n:=10) (by rfl) (rv:=[.tmp 2,.tmp 3]) (by rfl) (by simp) ?_
  unfold m13
  try simp only [wQ]
  repeat' (first|(simp only [Off.s_noOwn,Off.s_isV,↓bG,aD,↓wA,↓wC,wB,aF,aE,reduceEqDiff,reduceAdd,reduceSub,reduceIte,reduceCtorEq,Nat.reduceBEq,reduceLT])|(refine aG hV (by simp [bE,bV,Off.s_unown]) rfl ?_)|((first|apply aB|apply aC|apply aA)<;>intro h<;>try simp only [h]))
  all_goals (refine oB 1 ?_; simp)
 | true =>
  rw [hv] at hV
  refine dL (ps:=[[1,1,0]]) (fn:=f13) (by exact func13) c13 r13 (n:=10) (by rfl) (rv:=[.tmp 2,.tmp 3]) (by rfl) (by simp) ?_
  unfold m13
  try simp only [wQ]
  simp only [cI,dD]
  repeat' (first|(simp only [Off.s_noOwn,Off.s_isV,↓bG,aD,↓wA,↓wC,wB,aF,aE,reduceEqDiff,reduceAdd,reduceSub,reduceIte,reduceCtorEq,Nat.reduceBEq,reduceLT])|(refine aG hV (by simp [bE,bV,Off.s_unown]) rfl ?_)|((first|apply aB|apply aC|apply aA)<;>intro h<;>try simp only [h]))
  refine aR (dU 0 rfl) ?_
  repeat' (first|(simp only [Off.s_noOwn,Off.s_isV,↓bG,aD,Off.s_unown,↓wA,↓wC,wB,aF,aE,reduceEqDiff,reduceAdd,reduceSub,reduceIte,reduceCtorEq,Nat.reduceBEq,reduceLT])|(refine aG h (by simp [bE,bV,Off.s_unown]) rfl ?_)|((first|apply aB|apply aC|apply aA)<;>intro h<;>try simp only [h]))
  all_goals trace_state
end Go.Pe.Tryz
set_option maxRecDepth 100000
set_option maxHeartbeats 4000000
set_option linter.all false
namespace Go.Pe.Tryz
open Nat (reduceEqDiff reduceAdd reduceSub reduceLT)
open Go.Proofs.Tryz
end Go.Pe.Tryz
set_option maxRecDepth 100000
set_option maxHeartbeats 4000000
set_option linter.all false
namespace Go.Pe.Tryz
open Nat (reduceEqDiff reduceAdd reduceSub reduceLT)
open Go.Proofs.Tryz
end Go.Pe.Tryz
set_option maxRecDepth 100000
set_option maxHeartbeats 4000000
set_option linter.all false
namespace Go.Pe.Tryz
open Nat (reduceEqDiff reduceAdd reduceSub reduceLT)
open Go.Proofs.Tryz
end Go.Pe.Tryz
set_option maxRecDepth 100000
set_option maxHeartbeats 4000000
set_option linter.all false
namespace Go.Pe.Tryz
open Nat (reduceEqDiff reduceAdd reduceSub reduceLT)
open Go.Proofs.Tryz
structure App.wf (x:App):Prop where
 i:bQ .i64 x.i
 q:bQ .i64 x.q
 d:bQ .i64 x.d
 s:bQ .i64 x.s
 al:x.a.length<=maxLen
 hl:x.h.length<=maxLen
 a:∀ n∈x.a,bQ .i64 n
 h:∀ n∈x.h,bQ .i64 n
end Go.Pe.Tryz
set_option maxRecDepth 100000
set_option maxHeartbeats 4000000
set_option linter.all false
namespace Go.Pe.Tryz
open Nat (reduceEqDiff reduceAdd reduceSub reduceLT)
open Go.Proofs.Tryz
end Go.Pe.Tryz
set_option maxRecDepth 100000
set_option maxHeartbeats 4000000
set_option linter.all false
namespace Go.Pe.Tryz
open Nat (reduceEqDiff reduceAdd reduceSub reduceLT)
open Go.Proofs.Tryz
theorem gX {n a b:Int}:aU n a b=true↔a<=n/\n<=b:=by
 simp [aU]
end Go.Pe.Tryz
set_option maxRecDepth 100000
set_option maxHeartbeats 4000000
set_option linter.all false
namespace Go.Pe.Tryz
open Nat (reduceEqDiff reduceAdd reduceSub reduceLT)
open Go.Proofs.Tryz
theorem vJ {n:Int}:fC [] (iD n)=some (iD n):=rfl
theorem vT {n:Int}:dG [] (iD n)=0:=rfl
theorem vA {n:Int}:(iD n).size=1:=rfl
end Go.Pe.Tryz
set_option maxRecDepth 100000
set_option maxHeartbeats 4000000
set_option linter.all false
namespace Go.Pe.Tryz
open Nat (reduceEqDiff reduceAdd reduceSub reduceLT)
open Go.Proofs.Tryz
def App.p (x:App) (da dh:D):D:=.st (.cons (.int .i64 x.i) (.cons (.int .i64 x.q) (.cons (.int .i64 x.d) (.cons da (.cons dh (.cons (.int .i64 x.s) .nil))))))
def App.o (x:App):D:=x.p (.sl true 1 (dl iD x.a)) (.sl true 1 (dl iD x.h))
theorem aDr {α:Type} {xs:List α} {i:Nat} {r:α} (hr:xs[i]?=some r):xs.take (i + 1)=xs.take i ++ [r]:=by
 have hi:=aK hr
 rw [List.take_succ_eq_append_getElem hi]
 rw [List.getElem?_eq_getElem hi] at hr
 injection hr with hr
 rw [hr]
theorem cD:∀ (xs:D) (i:Nat) (y z:D),(xs.setN i y).setN i z=xs.setN i z:=by
 intro xs
 induction xs with
 | cons a xs ih1 ih2=>intro i y z; cases i with
  | zero=>rfl
  | succ i=>simp only [D.setN]; rw [ih2]
 | _=>intro i y z; cases i<;>rfl
end Go.Pe.Tryz
set_option maxRecDepth 100000
set_option maxHeartbeats 4000000
set_option linter.all false
namespace Go.Pe.Tryz
open Nat (reduceEqDiff reduceAdd reduceSub reduceLT)
open Go.Proofs.Tryz
theorem App.o_unown (x:App):x.o.unown=x.d':=by simp [App.o,App.p,App.d',D.unown,cH]
theorem App.o_own (x:App):x.o.allOwn=true:=by simp [App.o,App.p,D.allOwn,l6 xX]
theorem App.o_isV (x:App):x.o.isV=true:=rfl
theorem App.o_size (x:App):x.o.size=6:=rfl
theorem aDU (v:List Int) (hlen:v.length<=1048576):Fn prog 69 [.sl false 1 (dl iD v)] (fun rs=>rs=[.sl true 1 (dl iD v)]):=by
 refine a8 (fn:=f69) (by exact func69) c69 r69 (n:=8) (by rfl) (rv:=[.tmp 2]) (by rfl) (by simp) ?_
 unfold m69
 try simp only [wQ]
 simp only [↓wA,↓wC,wB,aF,aE,reduceEqDiff,reduceAdd,reduceSub,reduceIte,reduceCtorEq,Nat.reduceBEq,reduceLT]
 refine aBu (fun h=>?_) ?_
 ·rw [aJ] at h
  have e:v=[]:=List.length_eq_zero_iff.1 h
  subst e
  simp only [↓wA,↓wC,wB,aF,aE,reduceEqDiff,reduceAdd,reduceSub,reduceIte,reduceCtorEq,Nat.reduceBEq,reduceLT]
  refine oB 1 ?_
  rfl
 ·simp only [aJ,↓wA,↓wC,wB,aF,aE,reduceEqDiff,reduceAdd,reduceSub,reduceIte,reduceCtorEq,Nat.reduceBEq,reduceLT]
  refine aQ ⟨by omega,by omega⟩ ?_
  simp only [↓wA,↓wC,wB,aF,aE,reduceEqDiff,reduceAdd,reduceSub,reduceIte,reduceCtorEq,Nat.reduceBEq,reduceLT]
end Go.Pe.Tryz
set_option maxRecDepth 100000
set_option maxHeartbeats 4000000
set_option linter.all false
namespace Go.Pe.Tryz
open Nat (reduceEqDiff reduceAdd reduceSub reduceLT)
open Go.Proofs.Tryz
end Go.Pe.Tryz
set_option maxRecDepth 100000
set_option maxHeartbeats 4000000
set_option linter.all false
namespace Go.Pe.Tryz
open Nat (reduceEqDiff reduceAdd reduceSub reduceLT)
open Go.Proofs.Tryz
end Go.Pe.Tryz
set_option maxRecDepth 100000
set_option maxHeartbeats 4000000
set_option linter.all false
namespace Go.Pe.Tryz
open Nat (reduceEqDiff reduceAdd reduceSub reduceLT)
open Go.Proofs.Tryz
end Go.Pe.Tryz
set_option maxRecDepth 100000
set_option maxHeartbeats 4000000
set_option linter.all false
namespace Go.Pe.Tryz
open Nat (reduceEqDiff reduceAdd reduceSub reduceLT)
open Go.Proofs.Tryz
theorem aAp (a:Int):Fn prog 161 [.int .i64 a] (fun rs=>rs=[.bool false]):=by
 refine a8 (fn:=f161) (by exact func161) aMv aNf (n:=6) (by rfl) (rv:=[.tmp 2]) (by rfl) (by simp) ?_
 unfold aKG
 try simp only [wQ]
 simp only [↓wA,↓wC,wB,aF,aE,reduceEqDiff,reduceAdd,reduceSub,reduceIte,reduceCtorEq,Nat.reduceBEq,reduceLT]
theorem kO (a b:Int):Fn prog 143 [.int .i64 a,.int .i64 b] (fun rs=>rs=[.bool (decide (a < b))]):=by
 have h1:=aAp a
 have h2:=aAp b
 refine a8 (fn:=f143) (by exact func143) aNY aL9 (n:=17) (by rfl) (rv:=[.tmp 4]) (by rfl) (by simp) ?_
 unfold aLC
 try simp only [wQ]
 repeat' (first|(simp only [↓wA,↓wC,wB,aF,aE,reduceEqDiff,reduceAdd,reduceSub,reduceIte,reduceCtorEq,Nat.reduceBEq,reduceLT])|(refine aG (h1) rfl rfl ?_)|(refine aH (h1) rfl rfl ?_)|(refine aG (h2) rfl rfl ?_)|(refine aH (h2) rfl rfl ?_)|((first|apply aB|apply aC|apply aA)<;>intro h<;>try simp only [h]))
def yL (n:Nat):Int:=[0,1,2,2,3,3,3,3].getD n 0
theorem aF5 (n:Nat) (h:n<=7):Fn prog 147 [.int .u64 n] (fun rs=>rs=[.int .i64 (yL n)]):=by
 have h1:decide ((4294967296:Int)<=(n:Int))=false:=decide_eq_false (by omega)
 have h2:decide ((65536:Int)<=(n:Int))=false:=decide_eq_false (by omega)
 have h3:decide ((256:Int)<=(n:Int))=false:=decide_eq_false (by omega)
 have h8:n=0\/n=1\/n=2\/n=3\/n=4\/n=5\/n=6\/n=7:=by omega
 refine a8 (fn:=f147) (by exact func147) aMn aNI (n:=25) (by rfl) (rv:=[.tmp 2]) (by rfl) (by simp) ?_
 unfold aKW
 try simp only [wQ]
 repeat' (first|(simp only [aD,h1,h2,h3,↓wA,↓wC,wB,aF,aE,reduceEqDiff,reduceAdd,reduceSub,reduceIte,reduceCtorEq,Nat.reduceBEq,reduceLT])|(with_reducible refine aI ?_ ?_; focus (simp only [bQ]; omega))|((first|apply aB|apply aC|apply aA)<;>intro h<;>try simp only [h]))
 rcases h8 with rfl|rfl|rfl|rfl|rfl|rfl|rfl|rfl
 all_goals
  refine aQ (by decide) ?_
  refine ⟨_,rfl,?_⟩
  refine aI (by simp only [bQ]; decide) ?_
  simp only [↓wA,↓wC,wB,aF,aE,reduceEqDiff,reduceAdd,reduceSub,reduceIte,reduceCtorEq,Nat.reduceBEq,reduceLT]
  refine aI (by simp only [bQ]; decide) ?_
  simp only [↓wA,↓wC,wB,aF,aE,reduceEqDiff,reduceAdd,reduceSub,reduceIte,reduceCtorEq,Nat.reduceBEq,reduceLT]
  rfl
def pos (p:Int):List Int->Nat
 | []=>0
 | a :: t=>if a < p then pos p t + 1 else 0
def gA (p:Int) (v:List Int):List Int:=v.take (pos p v) ++ p :: v.drop (pos p v)
theorem yK {p:Int}:∀ (v:List Int) (j:Nat),j<=v.length->(∀ m x,m < j->v[m]?=some x->x < p)->(∀ x,v[j]?=some x->¬ x < p)->pos p v=j
 | [],j,h,_,_=>by
  simp at h
  subst h
  rfl
 | a :: t,0,_,_,h3=>by
  rw [pos,if_neg (h3 a rfl)]
 | a :: t,j + 1,h,h2,h3=>by
  rw [pos,if_pos (h2 0 a (by omega) rfl),yK t j (by simpa using h) (fun m x hm hx=>h2 (m + 1) x (by omega) (by simpa using hx)) (fun x hx=>h3 x (by simpa using hx))]
def x1 (v:List Int):Prop:=∀ j a b,v[j]?=some a->v[j + 1]?=some b->a < b
theorem uA {v:List Int} (h:x1 v):∀ (k m:Nat) (a b:Int),m < k->v[m]?=some a->v[k]?=some b->a < b
 | 0,m,a,b,hm,_,_=>by omega
 | k + 1,m,a,b,hm,ha,hb=>by
  by_cases e:m=k
  ·subst e; exact h m a b ha hb
  ·obtain ⟨c,hc⟩:=bM (show k < v.length by have:=aK hb; omega)
   have h1:=uA h k m a c (by omega) ha hc
   have h2:=h k c b hc hb
   omega
def mv (p:Int) (v:List Int) (j:Nat):List Int:=v.take j ++ p :: v.drop j
theorem aJp {p:Int} {v:List Int} {j:Nat} (h:j<=v.length):(mv p v j).length=v.length + 1:=by simp [mv]; omega
theorem aNk {p:Int} {v:List Int}:mv p v v.length=v ++ [p]:=by simp [mv]
theorem aKu {p:Int} {v:List Int} {j:Nat} (h:j<=v.length):(mv p v j)[j]?=some p:=by
 rw [mv,List.getElem?_append_right (by simp; omega),List.length_take,Nat.min_eq_left h,Nat.sub_self]; rfl
theorem aKZ {p x:Int} {v:List Int} {k:Nat} (h:v[k]?=some x):(mv p v (k + 1))[k]?=some x:=by
 have hk:=aK h
 rw [mv,List.getElem?_append_left (by simp; omega),List.getElem?_take_of_lt (by omega)]
 exact h
theorem aG1 {p x:Int} {v:List Int} {k:Nat} (h:v[k]?=some x):((mv p v (k + 1)).set (k + 1) x).set k p=mv p v k:=by
 have hk:=aK h
 rw [mv,aDr h,mv,aC6 h,List.append_assoc]
 have hl:(v.take k).length=k:=by simp; omega
 rw [List.set_append_right _ _ (by omega),hl,show k + 1 - k=1 by omega,List.set_append_right _ _ (by omega),hl,Nat.sub_self]
 rfl
theorem aCa (p:Int) (v:List Int) (hr:x1 v) (hp:p ∉ v) (hlen:v.length<=6):sO prog 137 false (.sl true 1 (dl iD (v ++ [p]))) [.int .i64 0,.int .i64 (v.length + 1)] (fun x' rs=>x'=.sl true 1 (dl iD (gA p v))/\rs=[]):=by
 have hput:∀ j,j<=v.length->(∀ m x,m < j->v[m]?=some x->x < p)->(∀ x,v[j]?=some x->¬ x < p)->mv p v j=gA p v:=fun j h1 h2 h3=>by rw [gA,yK v j h1 h2 h3,mv]
 have hnp:∀ {m x:_},v[m]?=some x->x≠p:=fun {m x} h e=>hp (e ▸ List.mem_of_getElem? h)
 refine fK (fn:=f137) (by exact func137) aN0 aNP (n:=49) (by rfl) (rv:=[]) (by rfl) (by decide) (by simp) ?_
 unfold aLo
 try simp only [wQ]
 simp only [aJ,↓wA,↓wC,wB,aF,aE,reduceEqDiff,reduceAdd,reduceSub,reduceIte,reduceCtorEq,Nat.reduceBEq,reduceLT]
 refine aI (by simp only [bQ]; omega) ?_
 refine cZ (fun i:Nat=>⟨[(0,.own 0),(1,.d (.int .i64 0)),(2,.d (.int .i64 (v.length + 1))),(6,.d (.int .i64 i))],[.val (.sl true 1 (dl iD (if i<=v.length then v ++ [p] else gA p v)))]⟩) (fun i=>1<=i/\i<=v.length + 1) (fun i=>v.length + 1 - i) 1 ?_ ⟨by omega,by omega⟩ ?_
 ·have e:(if 1<=v.length then v ++ [p] else gA p v)=v ++ [p]:=by
   split
   ·rfl
   ·rename_i h
    have h0:v.length=0:=by omega
    have e:v=[]:=List.length_eq_zero_iff.1 h0
    subst e
    rfl
  rw [e]
  exact (aN _ rfl ⟨⟨rfl,rfl⟩,⟨rfl,rfl⟩,⟨rfl,rfl⟩,⟨rfl,rfl⟩,trivial⟩)
 rintro i ⟨hi1,hi2⟩
 by_cases hin:i=v.length + 1
 ·subst hin
  have hd:decide (((v.length + 1:Nat):Int) < (v.length:Int) + 1)=false:=decide_eq_false (by omega)
  rw [if_neg (by omega)]
  simp only [hd,↓wA,↓wC,wB,aF,aE,reduceEqDiff,reduceAdd,reduceSub,reduceIte,reduceCtorEq,Nat.reduceBEq,reduceLT]
 ·have hd:decide ((i:Int) < (v.length:Int) + 1)=true:=decide_eq_true (by omega)
  rw [if_pos (by omega)]
  by_cases hlt:i < v.length
  ·obtain ⟨k,rfl⟩:∃ k,i=k + 1:=⟨i - 1,by omega⟩
   obtain ⟨y,hy⟩:=bM hlt
   obtain ⟨x,hx⟩:=bM (show k < v.length by omega)
   have hxy:=hr k x y hx hy
   have h1:decide (0 < ((k + 1:Nat):Int))=true:=decide_eq_true (by omega)
   have h2:decide (y < x)=false:=decide_eq_false (by omega)
   have hn1:(((k + 1:Nat):Int) - 1).toNat=k:=by omega
   have h0:(0:Int)<=((k + 1:Nat):Int):=by omega
   have h0':(0:Int)<=((k + 1:Nat):Int) - 1:=by omega
   have hg1:(v ++ [p])[k + 1]?=some y:=by rw [List.getElem?_append_left hlt]; exact hy
   have hg2:(v ++ [p])[k]?=some x:=by rw [List.getElem?_append_left (by omega)]; exact hx
   simp only [hd,↓wA,↓wC,wB,aF,aE,reduceEqDiff,reduceAdd,reduceSub,reduceIte,reduceCtorEq,Nat.reduceBEq,reduceLT]
   refine cZ (fun _:Unit=>⟨[(0,.own 0),(1,.d (.int .i64 0)),(2,.d (.int .i64 (v.length + 1))),(6,.d (.int .i64 ((k + 1:Nat):Int))),(7,.d (.int .i64 ((k + 1:Nat):Int)))],[.val (.sl true 1 (dl iD (v ++ [p])))]⟩) (fun _=>True) (fun _=>0) () (aN _ rfl ⟨⟨rfl,rfl⟩,⟨rfl,rfl⟩,⟨rfl,rfl⟩,⟨rfl,rfl⟩,⟨rfl,rfl⟩,trivial⟩) trivial ?_
   rintro _ _
   repeat' (first|(simp only [aJ,iM,h1,h2,hn1,h0,h0',aX,hg1,hg2,Option.map_some,aD,Int.toNat_natCast,vJ,vT,vA,↓wA,↓wC,wB,aF,aE,reduceEqDiff,reduceAdd,reduceSub,reduceIte,reduceCtorEq,Nat.reduceBEq,reduceLT])|(refine aG (kO y x) rfl rfl ?_)|(refine aH (kO y x) rfl rfl ?_)|(refine aH (kO _ _) rfl rfl ?_)|(with_reducible refine aI ?_ ?_; focus (simp only [bQ]; omega))|((first|apply aB|apply aC|apply aA)<;>intro h<;>try simp only [h]))
   refine ⟨k + 1 + 1,?_,⟨by omega,by omega⟩,by omega⟩
   rw [if_pos (by omega)]
   exact (aN _ rfl ⟨⟨rfl,rfl⟩,⟨rfl,rfl⟩,⟨rfl,rfl⟩,⟨rfl,rfl⟩,trivial⟩)
  ·have e:i=v.length:=by omega
   subst e
   simp only [hd,↓wA,↓wC,wB,aF,aE,reduceEqDiff,reduceAdd,reduceSub,reduceIte,reduceCtorEq,Nat.reduceBEq,reduceLT]
   refine cZ (fun j:Nat=>⟨[(0,.own 0),(1,.d (.int .i64 0)),(2,.d (.int .i64 (v.length + 1))),(6,.d (.int .i64 (v.length:Int))),(7,.d (.int .i64 j))],[.val (.sl true 1 (dl iD (mv p v j)))]⟩) (fun j=>j<=v.length/\∀ x,v[j]?=some x->¬ x < p) (fun j=>j) v.length ?_ ⟨Nat.le_refl _,fun x hx=>absurd (aK hx) (by omega)⟩ ?_
   ·rw [aNk]; exact (aN _ rfl ⟨⟨rfl,rfl⟩,⟨rfl,rfl⟩,⟨rfl,rfl⟩,⟨rfl,rfl⟩,⟨rfl,rfl⟩,trivial⟩)
   rintro j ⟨hj,hjx⟩
   cases j with
   | zero =>
    have hf:=hput 0 hj (fun m x hm _=>by omega) hjx
    have h1:decide (0 < ((0:Nat):Int))=false:=rfl
    repeat' (first|(simp only [h1,↓wA,↓wC,wB,aF,aE,reduceEqDiff,reduceAdd,reduceSub,reduceIte,reduceCtorEq,Nat.reduceBEq,reduceLT])|(with_reducible refine aI ?_ ?_; focus (simp only [bQ]; omega))|((first|apply aB|apply aC|apply aA)<;>intro h<;>try simp only [h]))
    refine ⟨v.length + 1,?_,⟨by omega,by omega⟩,by omega⟩
    rw [if_neg (by omega),<-hf]
    exact (aN _ rfl ⟨⟨rfl,rfl⟩,⟨rfl,rfl⟩,⟨rfl,rfl⟩,⟨rfl,rfl⟩,trivial⟩)
   | succ k =>
    obtain ⟨x,hx⟩:=bM (show k < v.length by omega)
    have hne:=hnp hx
    have h1:decide (0 < ((k + 1:Nat):Int))=true:=decide_eq_true (by omega)
    have hn1:(((k + 1:Nat):Int) - 1).toNat=k:=by omega
    have h0:(0:Int)<=((k + 1:Nat):Int):=by omega
    have h0':(0:Int)<=((k + 1:Nat):Int) - 1:=by omega
    have hg1:=aKu (p:=p) hj
    have hg2:=aKZ (p:=p) hx
    have hml:=aJp (p:=p) hj
    have hs1:((dl iD (mv p v (k + 1))).setN (k + 1) (.int .i64 x))=dl iD ((mv p v (k + 1)).set (k + 1) x):=gD (f:=iD) _ _ x
    have hs2:((dl iD ((mv p v (k + 1)).set (k + 1) x)).setN k (.int .i64 p))=dl iD (mv p v k):=(gD (f:=iD) _ _ p).trans (by rw [aG1 hx])
    have hg3:((mv p v (k + 1)).set (k + 1) x)[k]?=some x:=by rw [List.getElem?_set_ne (by omega)]; exact hg2
    cases hc:decide (p < x) with
    | false =>
     have hf:=hput (k + 1) hj (fun m z hm hz=>by
      have hc':=of_decide_eq_false hc
      by_cases e:m=k
      ·subst e
       rw [hx] at hz
       injection hz with hz
       omega
      ·have:=uA hr k m z x (by omega) hz hx
       omega) hjx
     repeat' (first|(simp only [aJ,iM,hml,h1,hc,hn1,h0,h0',aX,hg1,hg2,Option.map_some,aD,Int.toNat_natCast,vJ,vT,vA,↓wA,↓wC,wB,aF,aE,reduceEqDiff,reduceAdd,reduceSub,reduceIte,reduceCtorEq,Nat.reduceBEq,reduceLT])|(refine aH (kO _ _) rfl rfl ?_)|(with_reducible refine aI ?_ ?_; focus (simp only [bQ]; omega))|((first|apply aB|apply aC|apply aA)<;>intro h<;>try simp only [h]))
     refine ⟨v.length + 1,?_,⟨by omega,by omega⟩,by omega⟩
     rw [if_neg (by omega),<-hf]
     exact (aN _ rfl ⟨⟨rfl,rfl⟩,⟨rfl,rfl⟩,⟨rfl,rfl⟩,⟨rfl,rfl⟩,trivial⟩)
    | true =>
     repeat' (first|(simp only [aJ,iM,hml,h1,hc,hn1,h0,h0',aX,hg1,hg2,hg3,hs1,hs2,lV,List.length_set,Option.map_some,aD,Int.toNat_natCast,vJ,vT,vA,↓wA,↓wC,wB,aF,aE,reduceEqDiff,reduceAdd,reduceSub,reduceIte,reduceCtorEq,Nat.reduceBEq,reduceLT])|(refine aH (kO _ _) rfl rfl ?_)|(refine bO ?_)|(with_reducible refine aI ?_ ?_; focus (simp only [bQ]; omega))|((first|apply aB|apply aC|apply aA)<;>intro h<;>try simp only [h]))
     rw [show ((k + 1:Nat):Int) - 1=(k:Int) by omega]
     refine ⟨k,(aN _ rfl ⟨⟨rfl,rfl⟩,⟨rfl,rfl⟩,⟨rfl,rfl⟩,⟨rfl,rfl⟩,⟨rfl,rfl⟩,trivial⟩),⟨by omega,fun z hz=>?_⟩,by omega⟩
     rw [hx] at hz
     injection hz with hz
     have:=of_decide_eq_true hc
     omega
theorem aCf (n:Nat) (h:n<=7):Fn prog 119 [.int .u64 n] (fun rs=>rs=[.int .i64 (yL n)]):=by
 have h1:=aF5 n h
 refine a8 (fn:=f119) (by exact func119) aM4 aML (n:=8) (by rfl) (rv:=[.tmp 2]) (by rfl) (by simp) ?_
 unfold aLn
 try simp only [wQ]
 repeat' (first|(simp only [↓wA,↓wC,wB,aF,aE,reduceEqDiff,reduceAdd,reduceSub,reduceIte,reduceCtorEq,Nat.reduceBEq,reduceLT])|(refine aG (h1) rfl rfl ?_)|(refine aH (h1) rfl rfl ?_)|((first|apply aB|apply aC|apply aA)<;>intro h<;>try simp only [h]))
theorem aJ9 (p:Int) (v:List Int) (m:Int) (hr:x1 v) (hp:p ∉ v) (hlen:v.length<=6):sO prog 118 false (.sl true 1 (dl iD (v ++ [p]))) [.int .i64 0,.int .i64 (v.length + 1),.int .i64 m] (fun x' rs=>x'=.sl true 1 (dl iD (gA p v))/\rs=[]):=by
 have hI:=aCa p v hr hp hlen
 have h12:decide ((v.length:Int) + 1 - 0<=12)=true:=decide_eq_true (by omega)
 refine fK (fn:=f118) (by exact func118) aN7 aMQ (n:=134) (by rfl) (rv:=[]) (by rfl) (by decide) (by simp) ?_
 unfold aLE
 try simp only [wQ]
 simp only [↓wA,↓wC,wB,aF,aE,reduceEqDiff,reduceAdd,reduceSub,reduceIte,reduceCtorEq,Nat.reduceBEq,reduceLT]
 refine cZ (fun _:Unit=>⟨[(0,.own 0),(1,.d (.int .i64 0)),(2,.d (.int .i64 (v.length + 1))),(3,.d (.int .i64 m)),(8,.d (.bool true)),(9,.d (.bool true))],[.val (.sl true 1 (dl iD (v ++ [p])))]⟩) (fun _=>True) (fun _=>0) () (aN _ rfl ⟨⟨rfl,rfl⟩,⟨rfl,rfl⟩,⟨rfl,rfl⟩,⟨rfl,rfl⟩,⟨rfl,rfl⟩,⟨rfl,rfl⟩,trivial⟩) trivial ?_
 rintro _ _
 repeat' (first|(simp only [h12,↓wA,↓wC,wB,aF,aE,reduceEqDiff,reduceAdd,reduceSub,reduceIte,reduceCtorEq,Nat.reduceBEq,reduceLT])|(refine oZ hI rfl rfl rfl ?_)|(with_reducible refine aI ?_ ?_; focus (simp only [bQ]; omega))|((first|apply aB|apply aC|apply aA)<;>intro h<;>try simp only [h]))
theorem aHM (p:Int) (v:List Int) (hr:x1 v) (hp:p ∉ v) (hlen:v.length<=6):sO prog 103 false (.sl true 1 (dl iD (v ++ [p]))) [] (fun x' rs=>x'=.sl true 1 (dl iD (gA p v))/\rs=[]):=by
 have hl:((v.length + 1:Nat):Int)=(v.length:Int) + 1:=by omega
 have hl2:(v ++ [p]).length=v.length + 1:=by simp
 have hB:Fn prog 119 [.int .u64 ((v.length:Int) + 1)] (fun rs=>rs=[.int .i64 (yL (v.length + 1))]):=aCf (v.length + 1) (by omega)
 have hP:=aJ9 p v (yL (v.length + 1)) hr hp hlen
 have hU:bQ .u64 ((v.length:Int) + 1):=by
  have h8:v.length=0\/v.length=1\/v.length=2\/v.length=3\/v.length=4\/v.length=5\/v.length=6:=by omega
  rcases h8 with h|h|h|h|h|h|h
  all_goals
   rw [h]
   show IntKind.wrap .u64 _=_
   decide
 refine fK (fn:=f103) (by exact func103) aNU aMJ (n:=11) (by rfl) (rv:=[]) (by rfl) (by decide) (by simp) ?_
 unfold aLv
 try simp only [wQ]
 repeat' (first|(simp only [aJ,hl2,hl,↓wA,↓wC,wB,aF,aE,reduceEqDiff,reduceAdd,reduceSub,reduceIte,reduceCtorEq,Nat.reduceBEq,reduceLT])|(refine aG (hB) rfl rfl ?_)|(refine aH (hB) rfl rfl ?_)|(refine aI hU ?_)|(refine oZ hP rfl rfl rfl ?_)|(with_reducible refine aI ?_ ?_; focus (simp only [bQ]; omega))|((first|apply aB|apply aC|apply aA)<;>intro h<;>try simp only [h]))
end Go.Pe.Tryz
set_option maxRecDepth 100000
set_option maxHeartbeats 4000000
set_option linter.all false
namespace Go.Pe.Tryz
open Nat (reduceEqDiff reduceAdd reduceSub reduceLT)
open Go Go.RowKit Go.Shelf Go.Lib Go.Proofs.Tryz
theorem rI {P:Program} {ops:Array Oper} {o:Oper} {a:Act} {w:World} {K:Act->World->Prop} {Q:Exit->Act->World->Prop} {E:Prop}
  (hg:o.guard=none) (d x:Operand) (dT sT:TypeId) (hop:o.op=Op.call { callee:=Callee.builtin Builtin.append,args:=#[d,x],argTypes:=#[dT,sT] })
  (v u:Value) (hd:a.eval d=v) (hx:a.eval x=u) {v':Value} {w':World} (hr:(Builtin.append_ #[dT,sT] o.type #[v,u]).run P w=.ok v' w') (hK:K (a.put o.dst v') w') :
  if Region.wanted o (yielded ops a.tmps)=true then Oper.wp P o a w K Q else E:=by
 have hw:Region.wanted o (yielded ops a.tmps)=true:=by simp [Region.wanted,hg]
 rw [if_pos hw]
 unfold Oper.wp
 simp [execOp,hop,resolve,invoke,builtin,hd,hx,hr,Result.andThen]
 exact hK
theorem aCN {P:PG} {f:FuncId} (es:Nat)
  (raw:∀ (g n cp i j:Nat) (cs:List Value) (w:World),eI w g (cp * es) cs->cs.length=n * es->n<=cp->i < j->j<=n->(∀ v∈cs,v.oneCell'=true) ->
   Calls P.P f #[.slice (some ⟨g,0,none⟩) n cp,.int .i64 i,.int .i64 j] w fun e w' =>
    e=.returned (.slice (some ⟨g,0,none⟩) (n - (j - i)) cp)/\eI w' g (cp * es) (cs.take (i * es) ++ cs.drop (j * es))/\Went w w' (fun b=>b=g)/\(gN w g->gN w' g))
  (xs:List D) (hs:∀ x∈xs,x.size=es) (i j:Nat) (hij:i < j) (hj:j<=xs.length) :
  sO P f false (.sl true es (eP xs)) [.int .i64 i,.int .i64 j] (fun x' rs=>(∃ u,x'=.lnk 0 u)/\rs=[.sl true es (eP (xs.take i ++ xs.drop j))]):=by
 intro M oc vs w hM hob hnd hlt hG hr
 obtain ⟨_,us1,f1,f2,rfl,e0,⟨rfl,rfl⟩,_,us2,f3,f4,rfl,e1,⟨rfl,rfl⟩,rfl,rfl⟩:=hr
 obtain ⟨cs0,hrep,hv⟩:=hob
 obtain ⟨hL,a,c,ds,fps,rfl,hc,h3,h4⟩:=hrep
 rw [bY] at hc hv
 simp only [if_true] at h4
 rcases h4 with ⟨rfl,_,_⟩|⟨g,rfl,hrow,hfp⟩
 ·omega
 have hone:=jZ _ _ _ h3
 have hdl:ds.length=xs.length * es:=by rw [aW _ _ _ h3,e8 _ hs]
 have hv':rN false oc=.slice (some ⟨g,0,none⟩) xs.length c:=by
  show oc.v=_
  rw [hv]; rfl
 rw [hv']
 have hsp:xs=xs.take i ++ ((xs.drop i).take (j - i) ++ xs.drop j):=by
  have:xs.drop j=(xs.drop i).drop (j - i):=by rw [List.drop_drop]; congr 1; omega
  rw [this,List.take_append_drop,List.take_append_drop]
 have h3':=h3
 rw [hsp] at h3'
 obtain ⟨c1,c23,p1,p23,ed,ef,r1,r23⟩:=(cM _ _ _ _).1 h3'
 obtain ⟨c2,c3,p2,p3,rfl,rfl,r2,r3⟩:=(cM _ _ _ _).1 r23
 have l1:c1.length=i * es:=by
  rw [aW _ _ _ r1,e8 _ (fun y hy=>hs y (List.mem_of_mem_take hy)),List.length_take,Nat.min_eq_left (by omega)]
 have l2:c2.length=(j - i) * es:=by
  rw [aW _ _ _ r2,e8 _ (fun y hy=>hs y (List.mem_of_mem_drop (List.mem_of_mem_take hy))),List.length_take,List.length_drop,Nat.min_eq_left (by omega)]
 have t1:ds.take (i * es)=c1:=by rw [ed,<-l1,List.take_left]
 have t3:ds.drop (j * es)=c3:=by
  have:j * es=(c1 ++ c2).length:=by rw [List.length_append,l1,l2,<-Nat.add_mul]; congr 1; omega
  rw [ed,<-List.append_assoc,this,List.drop_left]
 refine (raw g xs.length c i j ds w hrow.1 hdl hc hij hj hone).mono ?_
 rintro e w' ⟨rfl,hrow',hw,hnm⟩
 rw [t1,t3] at hrow'
 rw [hfp,ef] at hnd hlt
 obtain ⟨hg,hnd⟩:=List.nodup_cons.1 hnd
 have n1:=List.nodup_append.1 hnd
 have n2:=List.nodup_append.1 n1.2.1
 have sub:∀ b∈g :: (p1 ++ p3),b∈oc.fp:=fun b hb=>by
  rw [hfp,ef]
  rcases List.mem_cons.1 hb with hb|hb
  ·simp [hb]
  ·rcases List.mem_append.1 hb with hb|hb<;>simp [hb]
 have hin:∀ b,b∈g :: (p1 ++ (p2 ++ p3))↔b∈oc.fp:=fun b=>by rw [hfp,ef]
 have frame:∀ (q:List D) (cs:List Value) (p:List Nat),(∀ b∈p,b≠g)->(eP q).rep w (fun b=>M b\/b∈oc.fp) cs p->(eP q).rep w' (fun b=>M b\/b∈[] ++ (g :: (p1 ++ p3))) cs p:=by
  intro q cs p hp hq
  refine bK hw.size (fun b _ h=>h.imp id (fun h=>sub b (by simpa using h))) _ _ _ (fun b hb hx=>hw.kept b hb fun e=>?_) hq
  subst e
  rcases hx with hx|hx
  ·exact hp _ hx rfl
  ·exact hx (.inr ((hin _).1 (by simp)))
 have nd:(g :: (p1 ++ p3)).Nodup:=by
  refine List.nodup_cons.2 ⟨fun h=>hg ?_,List.nodup_append.2 ⟨n1.1,n2.2.1,fun a ha b hb=>n1.2.2 a ha b (by simp [hb])⟩⟩
  rcases List.mem_append.1 h with h|h<;>simp [h]
 refine ⟨.lnk 0 oc.v,_,[.slice (some ⟨g,0,none⟩) (xs.length - (j - i)) c],[],g :: (p1 ++ p3),rfl,⟨⟨_,rfl⟩,rfl⟩,⟨[oc.v],⟨rfl,by rw [hv]; rfl,rfl⟩,rfl⟩,?_,by simpa using nd,fun b hb=>?_,?_⟩
 ·have hl':(xs.take i ++ xs.drop j).length=xs.length - (j - i):=by simp; omega
  refine ⟨[.slice (some ⟨g,0,none⟩) (xs.length - (j - i)) c],[],g :: (p1 ++ p3),[],rfl,by simp,⟨(eG _).2 fun y hy=>?_,some ⟨g,0,none⟩,c,c1 ++ c3,p1 ++ p3,by rw [bY,hl'],by rw [bY,hl']; omega,?_,?_⟩,rfl,rfl⟩
  ·rcases List.mem_append.1 hy with hy|hy
   ·exact hs y (List.mem_of_mem_take hy)
   ·exact hs y (List.mem_of_mem_drop hy)
  ·exact (cM _ _ _ _).2 ⟨c1,c3,p1,p3,rfl,rfl,frame _ _ _ (fun b hb e=>hg (by simp [<- e,hb])) r1,frame _ _ _ (fun b hb e=>hg (by simp [<- e,hb])) r3⟩
  ·simp only [if_true]
   exact .inr ⟨g,rfl,⟨hrow',fun he=>hnm (hrow.2 he)⟩,rfl⟩
 ·have hb':b∈g :: (p1 ++ p3):=by simpa using hb
  exact ⟨.inl (sub b hb'),by have:=hlt b ((hin b).2 (sub b hb')); have:=hw.size; omega⟩
 ·exact ⟨hw.os,hw.tape,hw.output,hw.size,fun b hb hx=>hw.kept b hb fun e=>hx (sub b (by simp [e]))⟩
theorem aAA (g n cp i j:Nat) (cs:List Value) (w:World) (hrow:eI w g (cp * 4) cs) (hlen:cs.length=n * 4) (hn:n<=cp) (hij:i < j) (hj:j<=n) (h1:∀ v∈cs,v.oneCell'=true) :
  Calls Go.Proofs.Tryz.prog 120 #[.slice (some ⟨g,0,none⟩) n cp,.int .i64 i,.int .i64 j] w fun e w' =>
   e=.returned (.slice (some ⟨g,0,none⟩) (n - (j - i)) cp)/\eI w' g (cp * 4) (cs.take (i * 4) ++ cs.drop (j * 4))/\Went w w' (fun b=>b=g)/\(gN w g->gN w' g):=by
 obtain ⟨inf,hinf,hsize,hzero⟩:∃ inf,Go.Proofs.Tryz.prog.info? 69=some inf/\inf.size=4/\inf.zero=some (.agg #[.int .i64 0,.int .i64 0,.int .i64 0,.slice none 0 0]):=⟨_,rfl,rfl,rfl⟩
 have hu:Go.Proofs.Tryz.prog.underlying 24=some (.slice 69):=rfl
 obtain ⟨cur,E,hcur,hsz,htk⟩:=hrow
 have hfit:cs.length<=cur.toList.length:=by
  have e:cur.toList.length=cur.size:=by simp
  rw [e,hsz,hlen]
  exact Nat.mul_le_mul_right _ hn
 obtain ⟨news,hnews⟩:∃ news,news=cs.drop (j * 4):=⟨_,rfl⟩
 have hnl:news.length=(n - j) * inf.size:=by rw [hnews,List.length_drop,hlen,hsize]; omega
 obtain ⟨row1,hrow1⟩:∃ row1,row1=(cur.toList.take (i * inf.size) ++ news ++ cur.toList.drop (i * inf.size + news.length)).toArray:=⟨_,rfl⟩
 have hcurd:dY w.drew g cur E:=hcur
 have hA:∃ A:Addr,(if cp=j then (some ⟨g,0,none⟩:Option Addr) else some ⟨g,j * 4,none⟩)=some A/\Hid (∀ t u,news[t]?=some u->w.drew.cell? (A.add t)=some u):=by
  by_cases h:cp=j
  ·refine ⟨⟨g,0,none⟩,by simp [h],fun t u hu=>?_⟩
   have h0:news=[]:=List.eq_nil_of_length_eq_zero (by rw [hnl,show n - j=0 by omega,Nat.zero_mul])
   rw [h0] at hu
   simp at hu
  ·refine ⟨⟨g,j * 4,none⟩,by simp [h],fun t u hu=>?_⟩
   rw [Addr.add_lit,hcurd.cell]
   rw [hnews,List.getElem?_drop,<-htk,List.getElem?_take] at hu
   split at hu
   ·simpa using hu
   ·cases hu
 obtain ⟨A,hA,hsrc⟩:=hA
 have s2:Hid (∀ u∈news,u.oneCell'=true):=fun u hu=>h1 u (by rw [hnews] at hu; exact List.mem_of_mem_drop hu)
 have hap:Hid (∀ ty,(Builtin.append_ #[24,24] ty #[.slice (some ⟨g,0,none⟩) i cp,.slice (some A) (n - j) (cp - j)]).run Go.Proofs.Tryz.prog w.drew=.ok (.slice (some ⟨g,0,none⟩) (i + (n - j)) cp) (w.drew.setRow g row1)):=fun ty=>by
  rw [hrow1]
  refine kH hu hinf g i cp cur hcurd A (n - j) (cp - j) news hnl hsrc.out s2.out (by omega) ?_
  rw [hnl,hsize,hsz,<-Nat.add_mul]
  exact Nat.mul_le_mul_right _ (by omega)
 have hr1s:row1.size=cur.size:=by
  rw [hrow1]
  simp only [List.size_toArray,List.length_append,List.length_take,List.length_drop,hnl,hsize,Array.length_toList,hsz]
  have:(i + (n - j)) * 4<=cp * 4:=Nat.mul_le_mul_right _ (by omega)
  omega
 obtain ⟨W1,hW1⟩:∃ W1,W1=w.drew.setRow g row1:=⟨_,rfl⟩
 have hcur1:dY W1 g row1 E:=by rw [hW1]; exact hcurd.set hr1s
 have hW:Hid (W1=w.drew.setRow g row1):=hW1
 obtain ⟨row2,hrow2⟩:∃ row2,row2=(row1.toList.take ((i + (n - j)) * 4) ++ (madeCells ((.agg #[.int .i64 0,.int .i64 0,.int .i64 0,.slice none 0 0]):Value).cells ((n - (i + (n - j))) * ((.agg #[.int .i64 0,.int .i64 0,.int .i64 0,.slice none 0 0]):Value).cells.size)).toList ++ row1.toList.drop ((i + (n - j)) * 4 + (madeCells ((.agg #[.int .i64 0,.int .i64 0,.int .i64 0,.slice none 0 0]):Value).cells ((n - (i + (n - j))) * ((.agg #[.int .i64 0,.int .i64 0,.int .i64 0,.slice none 0 0]):Value).cells.size)).toList.length)).toArray:=⟨_,rfl⟩
 have hcl:∀ ty,(Builtin.clear_ #[24] ty #[.slice (some ⟨g,(i + (n - j)) * 4,none⟩) (n - (i + (n - j))) (cp - (i + (n - j)))]).run Go.Proofs.Tryz.prog W1=.ok (.tuple #[]) (W1.setRow g row2):=fun ty=>by
  rw [hrow2]
  refine yM hu hinf hzero (by omega) hcur1 ?_ (by decide)
  show (i + (n - j)) * 4 + (n - (i + (n - j))) * 4<=row1.size
  rw [hr1s,hsz,<-Nat.add_mul]
  exact Nat.mul_le_mul_right _ (by omega)
 have hr2:Hid (row2=(row1.toList.take ((i + (n - j)) * 4) ++ (madeCells ((.agg #[.int .i64 0,.int .i64 0,.int .i64 0,.slice none 0 0]):Value).cells ((n - (i + (n - j))) * ((.agg #[.int .i64 0,.int .i64 0,.int .i64 0,.slice none 0 0]):Value).cells.size)).toList ++ row1.toList.drop ((i + (n - j)) * 4 + (madeCells ((.agg #[.int .i64 0,.int .i64 0,.int .i64 0,.slice none 0 0]):Value).cells ((n - (i + (n - j))) * ((.agg #[.int .i64 0,.int .i64 0,.int .i64 0,.slice none 0 0]):Value).cells.size)).toList.length)).toArray):=hrow2
 have mixed:Go.Proofs.Tryz.prog.follows .mixedOrders=true:=rfl
 have hic:i<=cp:=by omega
 have hjc:j<=cp:=by omega
 have hnt:Go.Proofs.Tryz.f120.ntmps=33:=rfl
 have hlt:i<=j:=by omega
 have hne:¬ ((i:Int)=(j:Int)):=by omega
 have hk1:inf.size=4:=hsize
 have X0:Aside (cs.length=n * 4):=hlen
 have X8:Aside (dY w.drew g cur E):=hcurd
 have X1:Aside (dY W1 g row1 E):=hcur1
 have X2:Aside (row1=(cur.toList.take (i * inf.size) ++ news ++ cur.toList.drop (i * inf.size + news.length)).toArray):=hrow1
 have X3:Aside (news=cs.drop (j * 4)):=hnews
 have X4:Aside (cur.toList.take cs.length=cs):=htk
 have X5:Aside (news.length=(n - j) * inf.size):=hnl
 have X6:Aside (row1.size=cur.size):=hr1s
 have X7:Aside (cur.size=cp * 4):=hsz
 clear hcur1 hrow1 hnews htk hnl hr1s hrow2 hW1 hsz hfit hcur hcurd hlen
 try simp only [Nat.mul_one] at hA hcl
 go_enter Go.Proofs.Tryz.func120,hnt
 go_wp2_with fail
 go_region_law_o (refine rI rfl (.tmp 22) (.tmp 25) 24 24 rfl _ _ (by simp [Act.eval,Act.put]) (by simp [Act.eval,Act.put]) (hap.out _) ?_; rw [<- hW.out])
 go_wp2
 go_ret
 have hcur1:=X1.out
 have hrow1:=X2.out
 have hnews:=X3.out
 have htk:=X4.out
 have hnl:=X5.out
 have hr1s:=X6.out
 have hsz:=X7.out
 have hlen:=X0.out
 have hr2:=hr2.out
 have hW:=hW.out
 rw [hk1] at hrow1 hnl
 have hz:(madeCells ((.agg #[.int .i64 0,.int .i64 0,.int .i64 0,.slice none 0 0]):Value).cells ((n - (i + (n - j))) * ((.agg #[.int .i64 0,.int .i64 0,.int .i64 0,.slice none 0 0]):Value).cells.size)).toList.length=(n - (i + (n - j))) * 4:=by
  rw [Array.length_toList,size_madeCells]; rfl
 generalize (madeCells ((.agg #[.int .i64 0,.int .i64 0,.int .i64 0,.slice none 0 0]):Value).cells ((n - (i + (n - j))) * ((.agg #[.int .i64 0,.int .i64 0,.int .i64 0,.slice none 0 0]):Value).cells.size)).toList=zs at hz hr2
 have hle:(i + (n - j)) * 4<=row1.toList.length:=by
  rw [Array.length_toList,hr1s,hsz]
  exact Nat.mul_le_mul_right _ (by omega)
 have hle2:(i + (n - j)) * 4 + (n - (i + (n - j))) * 4<=row1.toList.length:=by
  rw [<- Nat.add_mul,Array.length_toList,hr1s,hsz]
  exact Nat.mul_le_mul_right _ (by omega)
 have hr2s:row2.size=row1.size:=by
  rw [hr2,List.size_toArray,List.length_append,List.length_append,List.length_take,List.length_drop,hz,Nat.min_eq_left hle]
  rw [Array.length_toList] at hle2 ⊢
  omega
 have hcl2:(i + (n - j)) * 4=i * 4 + (n - j) * 4:=Nat.add_mul _ _ _
 have hlt1:(cs.take (i * 4)).length=i * 4:=by
  rw [List.length_take,hlen]
  exact Nat.min_eq_left (Nat.mul_le_mul_right _ (by omega))
 have hct:cur.toList.take (i * 4)=cs.take (i * 4):=by
  rw [<- htk,List.take_take]
  congr 1
  rw [hlen]
  exact (Nat.min_eq_left (Nat.mul_le_mul_right _ (by omega))).symm
 refine ⟨congrArg Ending.returned (show Value.slice (some ⟨g,0,none⟩) (i + (n - j)) cp=_ by rw [show i + (n - j)=n - (j - i) by omega]),⟨row2,E,hcur1.set hr2s,by rw [hr2s,hr1s,hsz],?_⟩,?_,fun hn=>?_⟩
 ·have e1:(cs.take (i * 4) ++ cs.drop (j * 4)).length=(i + (n - j)) * 4:=by
   rw [List.length_append,hlt1,<-hnews,hnl,hcl2]
  rw [e1,hr2]
  show (row1.toList.take ((i + (n - j)) * 4) ++ zs ++ _).take ((i + (n - j)) * 4)=_
  rw [List.append_assoc,List.take_left' (by rw [List.length_take]; exact Nat.min_eq_left hle),hrow1]
  show (cur.toList.take (i * 4) ++ news ++ _).take ((i + (n - j)) * 4)=_
  rw [List.take_left' (by rw [List.length_append,hct,hlt1,hnl,hcl2]),hct,hnews]
 ·rw [hW]
  have h1:Went w w.drew (fun b=>b=g):=⟨rfl,rfl,rfl,Nat.le_refl _,fun _ _ _=>rfl⟩
  have h2:=cP w.drew g row1
  have h3:=cP (w.drew.setRow g row1) g row2
  refine ⟨h3.os.trans (h2.os.trans h1.os),h3.tape.trans (h2.tape.trans h1.tape),h3.output.trans (h2.output.trans h1.output),Nat.le_trans h1.size (Nat.le_trans h2.size h3.size),fun b hb hx=>?_⟩
  rw [h3.kept b (by simpa using hb) hx,h2.kept b hb hx]
  rfl
 ·refine gN.set hcur1 ?_
  rw [hW]
  exact gN.set X8.out (fun cur E fz e=>hn cur E fz e)
theorem aA6 (g n cp i j:Nat) (cs:List Value) (w:World) (hrow:eI w g (cp * 1) cs) (hlen:cs.length=n * 1) (hn:n<=cp) (hij:i < j) (hj:j<=n) (h1:∀ v∈cs,v.oneCell'=true) :
  Calls Go.Proofs.Tryz.prog 102 #[.slice (some ⟨g,0,none⟩) n cp,.int .i64 i,.int .i64 j] w fun e w' =>
   e=.returned (.slice (some ⟨g,0,none⟩) (n - (j - i)) cp)/\eI w' g (cp * 1) (cs.take (i * 1) ++ cs.drop (j * 1))/\Went w w' (fun b=>b=g)/\(gN w g->gN w' g):=by
 obtain ⟨inf,hinf,hsize,hzero⟩:∃ inf,Go.Proofs.Tryz.prog.info? 3=some inf/\inf.size=1/\inf.zero=some (.int .i64 0):=⟨_,rfl,rfl,rfl⟩
 have hu:Go.Proofs.Tryz.prog.underlying 36=some (.slice 3):=rfl
 obtain ⟨cur,E,hcur,hsz,htk⟩:=hrow
 have hfit:cs.length<=cur.toList.length:=by
  have e:cur.toList.length=cur.size:=by simp
  rw [e,hsz,hlen]
  exact Nat.mul_le_mul_right _ hn
 obtain ⟨news,hnews⟩:∃ news,news=cs.drop (j * 1):=⟨_,rfl⟩
 have hnl:news.length=(n - j) * inf.size:=by rw [hnews,List.length_drop,hlen,hsize]; omega
 obtain ⟨row1,hrow1⟩:∃ row1,row1=(cur.toList.take (i * inf.size) ++ news ++ cur.toList.drop (i * inf.size + news.length)).toArray:=⟨_,rfl⟩
 have hcurd:dY w.drew g cur E:=hcur
 have hA:∃ A:Addr,(if cp=j then (some ⟨g,0,none⟩:Option Addr) else some ⟨g,j * 1,none⟩)=some A/\Hid (∀ t u,news[t]?=some u->w.drew.cell? (A.add t)=some u):=by
  by_cases h:cp=j
  ·refine ⟨⟨g,0,none⟩,by simp [h],fun t u hu=>?_⟩
   have h0:news=[]:=List.eq_nil_of_length_eq_zero (by rw [hnl,show n - j=0 by omega,Nat.zero_mul])
   rw [h0] at hu
   simp at hu
  ·refine ⟨⟨g,j * 1,none⟩,by simp [h],fun t u hu=>?_⟩
   rw [Addr.add_lit,hcurd.cell]
   rw [hnews,List.getElem?_drop,<-htk,List.getElem?_take] at hu
   split at hu
   ·simpa using hu
   ·cases hu
 obtain ⟨A,hA,hsrc⟩:=hA
 have s2:Hid (∀ u∈news,u.oneCell'=true):=fun u hu=>h1 u (by rw [hnews] at hu; exact List.mem_of_mem_drop hu)
 have hap:Hid (∀ ty,(Builtin.append_ #[36,36] ty #[.slice (some ⟨g,0,none⟩) i cp,.slice (some A) (n - j) (cp - j)]).run Go.Proofs.Tryz.prog w.drew=.ok (.slice (some ⟨g,0,none⟩) (i + (n - j)) cp) (w.drew.setRow g row1)):=fun ty=>by
  rw [hrow1]
  refine kH hu hinf g i cp cur hcurd A (n - j) (cp - j) news hnl hsrc.out s2.out (by omega) ?_
  rw [hnl,hsize,hsz,<-Nat.add_mul]
  exact Nat.mul_le_mul_right _ (by omega)
 have hr1s:row1.size=cur.size:=by
  rw [hrow1]
  simp only [List.size_toArray,List.length_append,List.length_take,List.length_drop,hnl,hsize,Array.length_toList,hsz]
  have:(i + (n - j)) * 1<=cp * 1:=Nat.mul_le_mul_right _ (by omega)
  omega
 obtain ⟨W1,hW1⟩:∃ W1,W1=w.drew.setRow g row1:=⟨_,rfl⟩
 have hcur1:dY W1 g row1 E:=by rw [hW1]; exact hcurd.set hr1s
 have hW:Hid (W1=w.drew.setRow g row1):=hW1
 obtain ⟨row2,hrow2⟩:∃ row2,row2=(row1.toList.take ((i + (n - j)) * 1) ++ (madeCells ((.int .i64 0):Value).cells ((n - (i + (n - j))) * ((.int .i64 0):Value).cells.size)).toList ++ row1.toList.drop ((i + (n - j)) * 1 + (madeCells ((.int .i64 0):Value).cells ((n - (i + (n - j))) * ((.int .i64 0):Value).cells.size)).toList.length)).toArray:=⟨_,rfl⟩
 have hcl:∀ ty,(Builtin.clear_ #[36] ty #[.slice (some ⟨g,(i + (n - j)) * 1,none⟩) (n - (i + (n - j))) (cp - (i + (n - j)))]).run Go.Proofs.Tryz.prog W1=.ok (.tuple #[]) (W1.setRow g row2):=fun ty=>by
  rw [hrow2]
  refine yM hu hinf hzero (by omega) hcur1 ?_ (by decide)
  show (i + (n - j)) * 1 + (n - (i + (n - j))) * 1<=row1.size
  rw [hr1s,hsz,<-Nat.add_mul]
  exact Nat.mul_le_mul_right _ (by omega)
 have hr2:Hid (row2=(row1.toList.take ((i + (n - j)) * 1) ++ (madeCells ((.int .i64 0):Value).cells ((n - (i + (n - j))) * ((.int .i64 0):Value).cells.size)).toList ++ row1.toList.drop ((i + (n - j)) * 1 + (madeCells ((.int .i64 0):Value).cells ((n - (i + (n - j))) * ((.int .i64 0):Value).cells.size)).toList.length)).toArray):=hrow2
 have mixed:Go.Proofs.Tryz.prog.follows .mixedOrders=true:=rfl
 have hic:i<=cp:=by omega
 have hjc:j<=cp:=by omega
 have hnt:Go.Proofs.Tryz.f102.ntmps=33:=rfl
 have hlt:i<=j:=by omega
 have hne:¬ ((i:Int)=(j:Int)):=by omega
 have hk1:inf.size=1:=hsize
 have X0:Aside (cs.length=n * 1):=hlen
 have X8:Aside (dY w.drew g cur E):=hcurd
 have X1:Aside (dY W1 g row1 E):=hcur1
 have X2:Aside (row1=(cur.toList.take (i * inf.size) ++ news ++ cur.toList.drop (i * inf.size + news.length)).toArray):=hrow1
 have X3:Aside (news=cs.drop (j * 1)):=hnews
 have X4:Aside (cur.toList.take cs.length=cs):=htk
 have X5:Aside (news.length=(n - j) * inf.size):=hnl
 have X6:Aside (row1.size=cur.size):=hr1s
 have X7:Aside (cur.size=cp * 1):=hsz
 clear hcur1 hrow1 hnews htk hnl hr1s hrow2 hW1 hsz hfit hcur hcurd hlen
 try simp only [Nat.mul_one] at hA hcl
 go_enter Go.Proofs.Tryz.func102,hnt
 go_wp2_with fail
 go_region_law_o (refine rI rfl (.tmp 22) (.tmp 25) 36 36 rfl _ _ (by simp [Act.eval,Act.put]) (by simp [Act.eval,Act.put]) (hap.out _) ?_; rw [<- hW.out])
 go_wp2
 go_ret
 have hcur1:=X1.out
 have hrow1:=X2.out
 have hnews:=X3.out
 have htk:=X4.out
 have hnl:=X5.out
 have hr1s:=X6.out
 have hsz:=X7.out
 have hlen:=X0.out
 have hr2:=hr2.out
 have hW:=hW.out
 rw [hk1] at hrow1 hnl
 have hz:(madeCells ((.int .i64 0):Value).cells ((n - (i + (n - j))) * ((.int .i64 0):Value).cells.size)).toList.length=(n - (i + (n - j))) * 1:=by
  rw [Array.length_toList,size_madeCells]; rfl
 generalize (madeCells ((.int .i64 0):Value).cells ((n - (i + (n - j))) * ((.int .i64 0):Value).cells.size)).toList=zs at hz hr2
 have hle:(i + (n - j)) * 1<=row1.toList.length:=by
  rw [Array.length_toList,hr1s,hsz]
  exact Nat.mul_le_mul_right _ (by omega)
 have hle2:(i + (n - j)) * 1 + (n - (i + (n - j))) * 1<=row1.toList.length:=by
  rw [<- Nat.add_mul,Array.length_toList,hr1s,hsz]
  exact Nat.mul_le_mul_right _ (by omega)
 have hr2s:row2.size=row1.size:=by
  rw [hr2,List.size_toArray,List.length_append,List.length_append,List.length_take,List.length_drop,hz,Nat.min_eq_left hle]
  rw [Array.length_toList] at hle2 ⊢
  omega
 have hcl2:(i + (n - j)) * 1=i * 1 + (n - j) * 1:=Nat.add_mul _ _ _
 have hlt1:(cs.take (i * 1)).length=i * 1:=by
  rw [List.length_take,hlen]
  exact Nat.min_eq_left (Nat.mul_le_mul_right _ (by omega))
 have hct:cur.toList.take (i * 1)=cs.take (i * 1):=by
  rw [<- htk,List.take_take]
  congr 1
  rw [hlen]
  exact (Nat.min_eq_left (Nat.mul_le_mul_right _ (by omega))).symm
 refine ⟨congrArg Ending.returned (show Value.slice (some ⟨g,0,none⟩) (i + (n - j)) cp=_ by rw [show i + (n - j)=n - (j - i) by omega]),⟨row2,E,hcur1.set hr2s,by rw [hr2s,hr1s,hsz],?_⟩,?_,fun hn=>?_⟩
 ·have e1:(cs.take (i * 1) ++ cs.drop (j * 1)).length=(i + (n - j)) * 1:=by
   rw [List.length_append,hlt1,<-hnews,hnl,hcl2]
  rw [e1,hr2]
  show (row1.toList.take ((i + (n - j)) * 1) ++ zs ++ _).take ((i + (n - j)) * 1)=_
  rw [List.append_assoc,List.take_left' (by rw [List.length_take]; exact Nat.min_eq_left hle),hrow1]
  show (cur.toList.take (i * 1) ++ news ++ _).take ((i + (n - j)) * 1)=_
  rw [List.take_left' (by rw [List.length_append,hct,hlt1,hnl,hcl2]),hct,hnews]
 ·rw [hW]
  have h1:Went w w.drew (fun b=>b=g):=⟨rfl,rfl,rfl,Nat.le_refl _,fun _ _ _=>rfl⟩
  have h2:=cP w.drew g row1
  have h3:=cP (w.drew.setRow g row1) g row2
  refine ⟨h3.os.trans (h2.os.trans h1.os),h3.tape.trans (h2.tape.trans h1.tape),h3.output.trans (h2.output.trans h1.output),Nat.le_trans h1.size (Nat.le_trans h2.size h3.size),fun b hb hx=>?_⟩
  rw [h3.kept b (by simpa using hb) hx,h2.kept b hb hx]
  rfl
 ·refine gN.set hcur1 ?_
  rw [hW]
  exact gN.set X8.out (fun cur E fz e=>hn cur E fz e)
theorem aCo (xs:List D) (hs:∀ x∈xs,x.size=4) (i j:Nat) (hij:i < j) (hj:j<=xs.length):sO prog 120 false (.sl true 4 (eP xs)) [.int .i64 i,.int .i64 j] (fun x' rs=>(∃ u,x'=.lnk 0 u)/\rs=[.sl true 4 (eP (xs.take i ++ xs.drop j))]) :=
 aCN 4 (fun g n cp i j cs w h1 h2 h3 h4 h5 h6=>aAA g n cp i j cs w h1 h2 h3 h4 h5 h6) xs hs i j hij hj
theorem aB8 (v:List Int) (i j:Nat) (hij:i < j) (hj:j<=v.length):sO prog 102 false (.sl true 1 (dl iD v)) [.int .i64 i,.int .i64 j] (fun x' rs=>(∃ u,x'=.lnk 0 u)/\rs=[.sl true 1 (dl iD (v.take i ++ v.drop j))]):=by
 have h:=aCN (P:=prog) (f:=102) 1 (fun g n cp i j cs w h1 h2 h3 h4 h5 h6=>aA6 g n cp i j cs w h1 h2 h3 h4 h5 h6) (v.map iD) (fun x hx=>by obtain ⟨n,_,rfl⟩:=List.mem_map.1 hx; rfl) i j hij (by simpa using hj)
 rw [<- List.map_take,<-List.map_drop,<-List.map_append] at h
 exact h
end Go.Pe.Tryz
