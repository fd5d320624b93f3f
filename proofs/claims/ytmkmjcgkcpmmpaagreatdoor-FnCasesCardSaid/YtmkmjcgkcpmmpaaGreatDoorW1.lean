/- What draws: a cursor over bytes; What draws: a number below a bound; What draws: once in n times; one of some numbers; Appeals among the laws' helpers: sizes, copies, equality; walked; Lists of appeals among the laws' helpers: sizes and copies; walked; Copies of lists of appeals, walked; Small tests of appeals, walked; Rising lists, walked; Is an appeal valid? walked; Valid appeals, walked; Valid lists of appeals, walked; Offices among the laws' helpers: sizes, copies, equality; walked; Entries of a ledger: strings.Trim, walked; what an entry is; Valid offices, walked; Is it an office? walked, and the law; The cases of an office of which something is so; those that are due, blocked, held; walked; The cases of an office with a hold: the reference, walked; the law of HeldCases; Valid lists of appeals, walked; Valid lists of appeals as the reference has them, walked; The law of AreAppeals, joined; Greatest common divisors and shares in lowest terms, walked; The place of an appeal; how many days it has left, walked; Marks on lists of numbers, walked; Marks on lists of appeals, walked; Marks on appeals, read again; copies of one's own, walked; Copies of appeals as the program makes them, walked; A decided appeal, walked; Copies of appeals and a decided appeal as the reference has them, walked; Sorting of a few numbers, walked -/
import Derived.Test.YtmkmjcgkcpmmpaaGreatDoorPeD
import Derived.Test.YtmkmjcgkcpmmpaaGreatDoorMc1
import Derived.Test.YtmkmjcgkcpmmpaaGreatDoorMc2
import Derived.Test.YtmkmjcgkcpmmpaaGreatDoorMc3
import Derived.Test.YtmkmjcgkcpmmpaaGreatDoorMc4
import Derived.Test.YtmkmjcgkcpmmpaaGreatDoorMc5
import Derived.Test.YtmkmjcgkcpmmpaaGreatDoorShelf
import Derived.Lib.AsciiSet
set_option maxRecDepth 100000
set_option maxHeartbeats 4000000
set_option linter.all false
namespace Go.Pe.Tryz
open Nat (reduceEqDiff reduceAdd reduceSub reduceLT)
open Go.Proofs.Tryz
theorem fS:∀ bs:List UInt8,(cQ bs).noOwn=true
 | []=>rfl
 | b :: bs=>by simp [cQ,D.noOwn,fS bs]
theorem vV:∀ (bs:List UInt8) (i:Nat),(cQ bs).nth i=(bs[i]?).map fun b=>D.int .u8 (b.toNat:Int)
 | [],i=>by cases i<;>rfl
 | b :: bs,0=>rfl
 | b :: bs,i + 1=>by simp [cQ,D.nth,vV bs i]
theorem wX:∀ bs:List UInt8,(cQ bs).unown=cQ bs
 | []=>rfl
 | b :: bs=>by simp [cQ,D.unown,wX bs]
theorem aIQ (x:Int):0<=bits .and .u64 x 255/\bits .and .u64 x 255<=255:=by
 unfold bits
 have h:(BitVec.ofInt (IntKind.bits .u64) x &&& BitVec.ofInt (IntKind.bits .u64) 255).toNat<=255:=by
  rw [BitVec.toNat_and]; exact Nat.le_trans Nat.and_le_right (by decide)
 simp only []
 generalize (BitVec.ofInt (IntKind.bits .u64) x &&& BitVec.ofInt (IntKind.bits .u64) 255).toNat=m at h
 have:IntKind.wrap .u64 (m:Int)=m:=by
  simp [IntKind.wrap,IntKind.bits,IntKind.signed]; omega
 rw [this]; omega
def xM (code:List UInt8) (k:Nat) (seed:Int):D:=.st (.cons (.sl false 1 (cQ code)) (.cons (.int .i64 k) (.cons (.int .u64 seed) .nil)))
theorem yZ (code:List UInt8) (k:Nat) (seed:Int) (hc:code.length<=1048576) (hk:k<=1000000000000):wP prog 88 true (xM code k seed) []
  (fun x' rs=>∃ (n:Int) (seed':Int),x'=xM code (k + 1) seed'/\rs=[.int .i64 n]/\0<=n/\n < 256):=by
 have h0:(0:Int)<=(k:Int):=by omega
 refine i6 (fn:=f88) (by exact func88) c88 r88 (n:=62) (by rfl) (rv:=[.tmp 2]) (by rfl) (by decide) (by simp) ?_
 unfold m88
 try simp only [wQ]
 simp only [xM]
 by_cases hlt:k < code.length
 ·obtain ⟨b,hb⟩:=cK hlt
  have hbl:(b.toNat:Int) < 256:=by have:=b.toNat_lt; omega
  have hd:decide ((k:Int) < (code.length:Int))=true:=decide_eq_true (by omega)
  have hd2:decide ((k:Int) + 1<=(code.length:Int))=true:=decide_eq_true (by omega)
  repeat' (first|(simp only [iQ,fS,vV,hd,hd2,h0,hb,Int.toNat_natCast,aV,↓wA,↓wC,wB,aY,aW,reduceEqDiff,reduceAdd,reduceSub,reduceIte,reduceCtorEq,Nat.reduceBEq,reduceLT])|(refine bA (by simp only [cV]; omega) ?_)|(refine uE ?_)|((first|apply aO|apply aQ|apply aK)<;>intro h<;>try simp only [h]))
  exact ⟨_,_,rfl,rfl,by omega,hbl⟩
 ·have hd:decide ((k:Int) < (code.length:Int))=false:=decide_eq_false (by omega)
  have hd2:decide ((k:Int) + 1<=(code.length:Int))=false:=decide_eq_false (by omega)
  repeat' (first|(simp only [iQ,fS,hd,hd2,h0,aV,↓wA,↓wC,wB,aY,aW,reduceEqDiff,reduceAdd,reduceSub,reduceIte,reduceCtorEq,Nat.reduceBEq,reduceLT])|(with_reducible refine bA ?_ ?_; focus (simp only [cV]; omega))|(with_reducible refine bK ?_ ?_; focus omega)|(with_reducible refine uE (k:=.u64) ?_)|((first|apply aO|apply aQ|apply aK)<;>intro h<;>try simp only [h]))
  generalize hX:(Int.fdiv _ _:Int)=X
  have h255:=aIQ X
  refine bA (by simp only [cV]; omega) ?_
  simp only [↓wA,↓wC,wB,aY,aW,reduceEqDiff,reduceAdd,reduceSub,reduceIte,reduceCtorEq,Nat.reduceBEq,reduceLT]
  exact ⟨_,_,rfl,rfl,h255.1,by omega⟩
end Go.Pe.Tryz
set_option maxRecDepth 100000
set_option maxHeartbeats 4000000
set_option linter.all false
namespace Go.Pe.Tryz
open Nat (reduceEqDiff reduceAdd reduceSub reduceLT)
open Go.Proofs.Tryz
theorem aBY (code:List UInt8) (k:Nat) (seed n:Int) (hc:code.length<=1048576) (hk:k<=999999999990):wP prog 50 true (xM code k seed) [.int .i64 n]
  (fun x' rs=>∃ (m:Int) (k':Nat) (seed':Int),x'=xM code k' seed'/\rs=[.int .i64 m]/\k<=k'/\k'<=k + 2/\0<=m/\(m < n\/m=0)):=by
 cases h1:decide (n<=1) with
 | true =>
  refine i6 (fn:=f50) (by exact func50) c50 r50 (n:=20) (by rfl) (rv:=[.tmp 4]) (by rfl) (by decide) (by simp) ?_
  unfold m50
  try simp only [wQ]
  repeat' (first|(simp only [h1,↓wA,↓wC,wB,aY,aW,reduceEqDiff,reduceAdd,reduceSub,reduceIte,reduceCtorEq,Nat.reduceBEq,reduceLT])|((first|apply aO|apply aQ|apply aK)<;>intro h<;>try simp only [h]))
  exact ⟨0,k,seed,rfl,rfl,by omega,by omega,by omega,.inr rfl⟩
 | false =>
  have h1':=of_decide_eq_false h1
  have hn0:n≠0:=by omega
  cases h2:decide (200 < n) with
  | false =>
   refine i6 (fn:=f50) (by exact func50) c50 r50 (n:=20) (by rfl) (rv:=[.tmp 4]) (by rfl) (by decide) (by simp) ?_
   unfold m50
   try simp only [wQ]
   repeat' (first|(simp only [h1,h2,↓wA,↓wC,wB,aY,aW,reduceEqDiff,reduceAdd,reduceSub,reduceIte,reduceCtorEq,Nat.reduceBEq,reduceLT])|((first|apply aO|apply aQ|apply aK)<;>intro h<;>try simp only [h]))
   refine dF (yZ code k seed hc (by omega)) rfl rfl rfl ?_
   rintro _ _ ⟨a,s1,rfl,rfl,ha0,ha1⟩
   have t0:0<=a.tmod n:=Int.tmod_nonneg _ ha0
   have t1:a.tmod n < n:=Int.tmod_lt_of_pos _ (by omega)
   repeat' (first|(simp only [h1,h2,↓wA,↓wC,wB,aY,aW,reduceEqDiff,reduceAdd,reduceSub,reduceIte,reduceCtorEq,Nat.reduceBEq,reduceLT])|(with_reducible refine bK hn0 ?_)|(with_reducible refine bA ?_ ?_; focus (simp only [cV]; omega))|((first|apply aO|apply aQ|apply aK)<;>intro h<;>try simp only [h]))
   exact ⟨_,k + 1,s1,rfl,rfl,by omega,by omega,t0,.inl t1⟩
  | true =>
   refine i6 (fn:=f50) (by exact func50) c50 r50 (n:=20) (by rfl) (rv:=[.tmp 4]) (by rfl) (by decide) (by simp) ?_
   unfold m50
   try simp only [wQ]
   repeat' (first|(simp only [h1,h2,↓wA,↓wC,wB,aY,aW,reduceEqDiff,reduceAdd,reduceSub,reduceIte,reduceCtorEq,Nat.reduceBEq,reduceLT])|((first|apply aO|apply aQ|apply aK)<;>intro h<;>try simp only [h]))
   refine dF (yZ code k seed hc (by omega)) rfl rfl rfl ?_
   rintro _ _ ⟨a,s1,rfl,rfl,ha0,ha1⟩
   repeat' (first|(simp only [h1,h2,↓wA,↓wC,wB,aY,aW,reduceEqDiff,reduceAdd,reduceSub,reduceIte,reduceCtorEq,Nat.reduceBEq,reduceLT])|(with_reducible refine bA ?_ ?_; focus (simp only [cV]; omega))|((first|apply aO|apply aQ|apply aK)<;>intro h<;>try simp only [h]))
   refine dF (yZ code (k + 1) s1 hc (by omega)) rfl rfl rfl ?_
   rintro _ _ ⟨b,s2,rfl,rfl,hb0,hb1⟩
   have t0:0<=(a * 256 + b).tmod n:=Int.tmod_nonneg _ (by omega)
   have t1:(a * 256 + b).tmod n < n:=Int.tmod_lt_of_pos _ (by omega)
   repeat' (first|(simp only [h1,h2,↓wA,↓wC,wB,aY,aW,reduceEqDiff,reduceAdd,reduceSub,reduceIte,reduceCtorEq,Nat.reduceBEq,reduceLT])|(with_reducible refine bK hn0 ?_)|(with_reducible refine bA ?_ ?_; focus (simp only [cV]; omega))|((first|apply aO|apply aQ|apply aK)<;>intro h<;>try simp only [h]))
   exact ⟨_,k + 1 + 1,s2,rfl,rfl,by omega,by omega,t0,.inl t1⟩
end Go.Pe.Tryz
set_option maxRecDepth 100000
set_option maxHeartbeats 4000000
set_option linter.all false
namespace Go.Pe.Tryz
open Nat (reduceEqDiff reduceAdd reduceSub reduceLT)
open Go.Proofs.Tryz
theorem aMN (code:List UInt8) (k:Nat) (seed n:Int) (hc:code.length<=1048576) (hk:k<=999999999990):wP prog 51 true (xM code k seed) [.int .i64 n]
  (fun x' rs=>∃ (b:Bool) (k':Nat) (seed':Int),x'=xM code k' seed'/\rs=[.bool b]/\k<=k'/\k'<=k + 2):=by
 refine i6 (fn:=f51) (by exact func51) c51 r51 (n:=9) (by rfl) (rv:=[.tmp 4]) (by rfl) (by decide) (by simp) ?_
 unfold m51
 try simp only [wQ]
 try simp only [↓wA,↓wC,wB,aY,aW,reduceEqDiff,reduceAdd,reduceSub,reduceIte,reduceCtorEq,Nat.reduceBEq,reduceLT]
 refine dF (aBY code k seed n hc hk) rfl rfl rfl ?_
 rintro _ _ ⟨m,k',s',rfl,rfl,h1,h2,h3,h4⟩
 simp only [↓wA,↓wC,wB,aY,aW,reduceEqDiff,reduceAdd,reduceSub,reduceIte,reduceCtorEq,Nat.reduceBEq,reduceLT]
 exact ⟨_,k',s',rfl,rfl,h1,h2⟩
theorem zJ (code:List UInt8) (k:Nat) (seed:Int) (v:List Int) (hc:code.length<=1048576) (hk:k<=999999999990) (hv:0 < v.length) (hl:v.length<=1048576):wP prog 56 true (xM code k seed) [.sl false 1 (dl iD v)]
  (fun x' rs=>∃ (m:Int) (k':Nat) (seed':Int),x'=xM code k' seed'/\rs=[.int .i64 m]/\k<=k'/\k'<=k + 2/\m∈v):=by
 refine i6 (fn:=f56) (by exact func56) c56 r56 (n:=12) (by rfl) (rv:=[.tmp 4]) (by rfl) (by decide) (by simp) ?_
 unfold m56
 try simp only [wQ]
 try simp only [a7,↓wA,↓wC,wB,aY,aW,reduceEqDiff,reduceAdd,reduceSub,reduceIte,reduceCtorEq,Nat.reduceBEq,reduceLT]
 refine dF (aBY code k seed v.length hc hk) rfl rfl rfl ?_
 rintro _ _ ⟨m,k',s',rfl,rfl,h1,h2,h3,h4⟩
 obtain ⟨y,hy⟩:=cK (show m.toNat < v.length by omega)
 repeat' (first|(simp only [a7,bW,h3,hy,Option.map_some,aV,e9,↓wA,↓wC,wB,aY,aW,reduceEqDiff,reduceAdd,reduceSub,reduceIte,reduceCtorEq,Nat.reduceBEq,reduceLT])|((first|apply aO|apply aQ|apply aK)<;>intro h<;>try simp only [h]))
 exact ⟨y,k',s',rfl,rfl,h1,h2,List.mem_of_getElem? hy⟩
end Go.Pe.Tryz
set_option maxRecDepth 100000
set_option maxHeartbeats 4000000
set_option linter.all false
namespace Go.Pe.Tryz
open Nat (reduceEqDiff reduceAdd reduceSub reduceLT)
open Go.Proofs.Tryz
structure App where
 i:Int
 q:Int
 d:Int
 a:List Int
 h:List Int
 s:Int
def App.d' (x:App):D:=.st (.cons (.int .i64 x.i) (.cons (.int .i64 x.q) (.cons (.int .i64 x.d) (.cons (.sl false 1 (dl iD x.a)) (.cons (.sl false 1 (dl iD x.h)) (.cons (.int .i64 x.s) .nil))))))
def App.ok0 (x:App):Prop:=x.a.length<=1048576/\x.h.length<=1048576
theorem bJ (v:List Int):(dl iD v).noOwn=true:=rC aJn v
theorem c9 (v:List Int):(dl iD v).unown=dl iD v:=u6 aJh v
theorem App.noOwn (x:App):x.d'.noOwn=true:=by simp [App.d',D.noOwn,bJ]
theorem App.unown (x:App):x.d'.unown=x.d':=by simp [App.d',D.unown,c9]
end Go.Pe.Tryz
set_option maxRecDepth 100000
set_option maxHeartbeats 4000000
set_option linter.all false
namespace Go.Pe.Tryz
open Nat (reduceEqDiff reduceAdd reduceSub reduceLT)
open Go.Proofs.Tryz
theorem aGF {α:Type} {xs:List α} {i:Nat} {a:α} (h:xs[i]?=some a):xs.drop i=a :: xs.drop (i + 1):=by
 have hi:=bC h
 rw [List.drop_eq_getElem_cons hi]
 rw [List.getElem?_eq_getElem hi] at h
 injection h with h
 rw [h]
end Go.Pe.Tryz
set_option maxRecDepth 100000
set_option maxHeartbeats 4000000
set_option linter.all false
namespace Go.Pe.Tryz
open Nat (reduceEqDiff reduceAdd reduceSub reduceLT)
open Go.Proofs.Tryz
end Go.Pe.Tryz
set_option maxRecDepth 100000
set_option maxHeartbeats 4000000
set_option linter.all false
namespace Go.Pe.Tryz
open Nat (reduceEqDiff reduceAdd reduceSub reduceLT)
open Go.Proofs.Tryz
def bX (n a b:Int):Bool:=decide (a<=n) && decide (n<=b)
theorem eL (n a b:Int):Fn prog 37 [.int .i64 n,.int .i64 a,.int .i64 b] (fun rs=>rs=[.bool (bX n a b)]):=by
 refine bV (fn:=f37) (by exact func37) c37 r37 (n:=15) (by rfl) (rv:=[.tmp 6]) (by rfl) (by simp) ?_
 unfold m37
 try simp only [wQ]
 simp only [↓wA,↓wC,wB,aY,aW,reduceEqDiff,reduceAdd,reduceSub,reduceIte,reduceCtorEq,Nat.reduceBEq,reduceLT]
 refine aO (fun h=>?_) (fun h=>?_)<;>simp only [h,↓wA,↓wC,wB,aY,aW,reduceEqDiff,reduceAdd,reduceSub,reduceIte,reduceCtorEq,Nat.reduceBEq,reduceLT]
 all_goals simp [bX,h]
theorem jT (n a b:Int):Fn prog 60 [.int .i64 n,.int .i64 a,.int .i64 b] (fun rs=>rs=[.bool (bX n a b)]):=by
 refine bV (fn:=f60) (by exact func60) c60 r60 (n:=15) (by rfl) (rv:=[.tmp 6]) (by rfl) (by simp) ?_
 unfold m60
 try simp only [wQ]
 simp only [↓wA,↓wC,wB,aY,aW,reduceEqDiff,reduceAdd,reduceSub,reduceIte,reduceCtorEq,Nat.reduceBEq,reduceLT]
 refine aO (fun h=>?_) (fun h=>?_)<;>simp only [h,↓wA,↓wC,wB,aY,aW,reduceEqDiff,reduceAdd,reduceSub,reduceIte,reduceCtorEq,Nat.reduceBEq,reduceLT]
 all_goals simp [bX,h]
theorem aDQ (n:Int):Fn prog 44 [.int .i64 n] (fun rs=>rs=[.bool (bX n 0 20000)]):=by
 refine bV (fn:=f44) (by exact func44) c44 r44 (n:=5) (by rfl) (rv:=[.tmp 2]) (by rfl) (by simp) ?_
 unfold m44
 try simp only [wQ]
 repeat' (first|(simp only [↓wA,↓wC,wB,aY,aW,reduceEqDiff,reduceAdd,reduceSub,reduceIte,reduceCtorEq,Nat.reduceBEq,reduceLT])|(refine aZ (eL _ _ _) rfl rfl ?_)|(refine a6 (eL _ _ _) rfl rfl ?_)|((first|apply aO|apply aQ|apply aK)<;>intro h<;>try simp only [h]))
theorem x6 (n:Int):Fn prog 54 [.int .i64 n] (fun rs=>rs=[.bool (bX n 0 20000)]):=by
 refine bV (fn:=f54) (by exact func54) c54 r54 (n:=5) (by rfl) (rv:=[.tmp 2]) (by rfl) (by simp) ?_
 unfold m54
 try simp only [wQ]
 repeat' (first|(simp only [↓wA,↓wC,wB,aY,aW,reduceEqDiff,reduceAdd,reduceSub,reduceIte,reduceCtorEq,Nat.reduceBEq,reduceLT])|(refine aZ (jT _ _ _) rfl rfl ?_)|(refine a6 (jT _ _ _) rfl rfl ?_)|((first|apply aO|apply aQ|apply aK)<;>intro h<;>try simp only [h]))
theorem aDl (v:List Int) (n:Int) (hlen:v.length<=1048576):Fn prog 61 [.sl false 1 (dl iD v),.int .i64 n] (fun rs=>rs=[.bool (v.contains n)]):=by
 refine bV (fn:=f61) (by exact func61) c61 r61 (n:=18) (by rfl) (rv:=[.tmp 4]) (by rfl) (by simp) ?_
 unfold m61
 try simp only [wQ]
 simp only [↓wA,↓wC,wB,aY,aW,reduceEqDiff,reduceAdd,reduceSub,reduceIte,reduceCtorEq,Nat.reduceBEq,reduceLT]
 refine dZ (fun i:Nat=>⟨[(0,.d (.sl false 1 (dl iD v))),(1,.d (.int .i64 n)),(5,.d (.int .i64 i))],[]⟩)
  (fun i=>i<=v.length/\n ∉ v.take i) (fun i=>v.length - i) 0 (bF [] rfl ⟨⟨rfl,rfl⟩,⟨rfl,rfl⟩,⟨rfl,rfl⟩,trivial⟩) ⟨Nat.zero_le _,by simp⟩ ?_
 rintro i ⟨hi,hp⟩
 by_cases hlt:i < v.length
 ·obtain ⟨r,hr⟩:=cK hlt
  have hd:decide ((i:Int) < (v.length:Int))=true:=decide_eq_true (by omega)
  have h0:(0:Int)<=(i:Int):=by omega
  by_cases hc:r=n
  ·have hm:v.contains n=true:=by rw [List.contains_iff_mem]; rw [<- hc]; exact List.mem_of_getElem? hr
   have hdc:decide (r=n)=true:=decide_eq_true hc
   simp only [a7,bW,hd,h0,hr,Option.map_some,Int.toNat_natCast,aV,iD,hdc,hm,↓wA,↓wC,wB,aY,aW,reduceEqDiff,reduceAdd,reduceSub,reduceIte,reduceCtorEq,Nat.reduceBEq,reduceLT]
  ·have hdc:decide (r=n)=false:=decide_eq_false hc
   simp only [a7,bW,hd,h0,hr,Option.map_some,Int.toNat_natCast,aV,iD,hdc,↓wA,↓wC,wB,aY,aW,reduceEqDiff,reduceAdd,reduceSub,reduceIte,reduceCtorEq,Nat.reduceBEq,reduceLT]
   refine bA (by simp only [cV]; omega) ?_
   refine ⟨i + 1,bF [] rfl ⟨⟨rfl,rfl⟩,⟨rfl,rfl⟩,⟨rfl,rfl⟩,trivial⟩,⟨by omega,?_⟩,by omega⟩
   have hi:=bC hr
   rw [List.take_succ_eq_append_getElem hi]
   have:v[i]=r:=by rw [List.getElem?_eq_getElem hi] at hr; injection hr
   rw [this]
   simp only [List.mem_append,List.mem_singleton,not_or]
   exact ⟨hp,fun h=>hc h.symm⟩
 ·have hd:decide ((i:Int) < (v.length:Int))=false:=decide_eq_false (by omega)
  simp only [a7,hd,↓wA,↓wC,wB,aY,aW,reduceEqDiff,reduceAdd,reduceSub,reduceIte,reduceCtorEq,Nat.reduceBEq,reduceLT]
  rw [List.take_of_length_le (by omega)] at hp
  have:v.contains n=false:=by
   cases h:v.contains n with
   | false=>rfl
   | true=>exact absurd (List.contains_iff_mem.1 h) hp
  rw [this]
end Go.Pe.Tryz
set_option maxRecDepth 100000
set_option maxHeartbeats 4000000
set_option linter.all false
namespace Go.Pe.Tryz
open Nat (reduceEqDiff reduceAdd reduceSub reduceLT)
open Go.Proofs.Tryz
def lH (v:List Int):Bool:=(List.range (v.length - 1)).all fun j=>decide (v.getD j 0 < v.getD (j + 1) 0)
theorem mT (v:List Int):lH v=true↔∀ j,j + 1 < v.length->v.getD j 0 < v.getD (j + 1) 0:=by
 simp only [lH,List.all_eq_true,List.mem_range,decide_eq_true_eq]
 exact ⟨fun h j hj=>h j (by omega),fun h j hj=>h j (by omega)⟩
theorem aCm (v:List Int) (hlen:v.length<=1048576):Fn prog 85 [.sl false 1 (dl iD v)] (fun rs=>rs=[.bool (lH v)]):=by
 refine bV (fn:=f85) (by exact func85) c85 r85 (n:=20) (by rfl) (rv:=[.tmp 2]) (by rfl) (by simp) ?_
 unfold m85
 try simp only [wQ]
 simp only [↓wA,↓wC,wB,aY,aW,reduceEqDiff,reduceAdd,reduceSub,reduceIte,reduceCtorEq,Nat.reduceBEq,reduceLT]
 refine dZ (fun i:Nat=>⟨[(0,.d (.sl false 1 (dl iD v))),(3,.d (.int .i64 (i + 1:Nat)))],[]⟩)
  (fun i=>i<=v.length/\∀ j,j + 1 < i + 1->j + 1 < v.length->v.getD j 0 < v.getD (j + 1) 0) (fun i=>v.length - i) 0 (bF [] rfl ⟨⟨rfl,rfl⟩,⟨rfl,rfl⟩,trivial⟩) ⟨Nat.zero_le _,fun j h=>by omega⟩ ?_
 rintro i ⟨hi,hp⟩
 by_cases hlt:i + 1 < v.length
 ·obtain ⟨a,ha⟩:=cK (show i < v.length by omega)
  obtain ⟨b,hb⟩:=cK hlt
  have hd:decide (((i + 1:Nat):Int) < (v.length:Int))=true:=decide_eq_true (by omega)
  have h0:(0:Int)<=((i + 1:Nat):Int):=by omega
  have h1:(0:Int)<=((i + 1:Nat):Int) - 1:=by omega
  have ha':v[(((i + 1:Nat):Int) - 1).toNat]?=some a:=by rw [show (((i + 1:Nat):Int) - 1).toNat=i by omega]; exact ha
  have ga:v.getD i 0=a:=by simp [List.getD,ha]
  have gb:v.getD (i + 1) 0=b:=by simp [List.getD,hb]
  repeat' (first|(simp only [a7,bW,hd,h0,h1,ha',hb,Int.toNat_natCast,Option.map_some,aV,iD,↓wA,↓wC,wB,aY,aW,reduceEqDiff,reduceAdd,reduceSub,reduceIte,reduceCtorEq,Nat.reduceBEq,reduceLT])|(refine bA (by simp only [cV]; omega) ?_)|((first|apply aO|apply aQ|apply aK)<;>intro h<;>try simp only [h]))
  ·have hr:lH v=false:=by
    cases hr:lH v with
    | false=>rfl
    | true =>
     have:=(mT v).1 hr i hlt
     rw [ga,gb] at this
     simp at h; omega
   rw [hr]
  ·refine ⟨i + 1,bF [] rfl ⟨⟨rfl,rfl⟩,⟨rfl,rfl⟩,trivial⟩,⟨by omega,fun j hj hj2=>?_⟩,by omega⟩
   by_cases e:j=i
   ·subst e
    rw [ga,gb]
    simp at h; omega
   ·exact hp j (by omega) hj2
 ·have hd:decide (((i + 1:Nat):Int) < (v.length:Int))=false:=decide_eq_false (by omega)
  have hr:lH v=true:=(mT v).2 fun j hj=>hp j (by omega) hj
  simp only [a7,hd,↓wA,↓wC,wB,aY,aW,reduceEqDiff,reduceAdd,reduceSub,reduceIte,reduceCtorEq,Nat.reduceBEq,reduceLT]
  rw [hr]
end Go.Pe.Tryz
set_option maxRecDepth 100000
set_option maxHeartbeats 4000000
set_option linter.all false
namespace Go.Pe.Tryz
open Nat (reduceEqDiff reduceAdd reduceSub reduceLT)
open Go.Proofs.Tryz
theorem aAN (p:Int->Bool) (g:Nat) (c:D) (xs:List Int) (hc:c.caps=true) (he:eU prog.P g=true) (hlen:xs.length<=1048576) (hp:∀ x∈xs,Fn prog g (iD x :: c.list) (fun rs=>rs=[.bool (p x)])) :
  Fn prog 109 [.sl false 1 (dl iD xs),.clo g c] (fun rs=>rs=[.int .i64 (jL p xs)]):=by
 refine bV (fn:=f109) (by exact func109) aQq aQC (n:=19) (by rfl) (rv:=[.tmp 4]) (by rfl) (by simp) ?_
 unfold aOJ
 try simp only [wQ]
 simp only [a7,↓wA,↓wC,wB,aY,aW,reduceEqDiff,reduceAdd,reduceSub,reduceIte,reduceCtorEq,Nat.reduceBEq,reduceLT]
 refine cP xs.length (fun i:Nat=>⟨[(0,.d (.sl false 1 (dl iD xs))),(1,.d (.clo g c)),(7,.d (.int .i64 xs.length)),(8,.d (.int .i64 i))],[]⟩) (fun i=>∀ j r,j < i->xs[j]?=some r->p r=false) (bF _ rfl ⟨⟨rfl,rfl⟩,⟨rfl,rfl⟩,⟨rfl,rfl⟩,⟨rfl,rfl⟩,trivial⟩) (fun j r hj=>by omega) ?_ ?_
 ·intro i hlt hinv hd h0
  obtain ⟨r,hr⟩:=cK hlt
  have hcl:=hp r (List.mem_of_getElem? hr)
  simp only [hd,h0,bW,Int.toNat_natCast,hr,Option.map_some,aV,↓e9,↓wA,↓wC,wB,aY,aW,reduceEqDiff,reduceAdd,reduceSub,reduceIte,reduceCtorEq,Nat.reduceBEq,reduceLT]
  refine r9 (ds:=[iD r]) hcl he hc (by simp [cA,cW,oV,iD]) rfl ?_
  cases hpr:p r with
  | true =>
   simp only [↓wA,↓wC,wB,aY,aW,reduceEqDiff,reduceAdd,reduceSub,reduceIte,reduceCtorEq,Nat.reduceBEq,reduceLT]
   rw [pF hr hpr hinv]
  | false =>
   simp only [↓wA,↓wC,wB,aY,aW,reduceEqDiff,reduceAdd,reduceSub,reduceIte,reduceCtorEq,Nat.reduceBEq,reduceLT]
   refine bA (by simp only [cV]; omega) ?_
   refine d8 (bF _ rfl ⟨⟨rfl,rfl⟩,⟨rfl,rfl⟩,⟨rfl,rfl⟩,⟨rfl,rfl⟩,trivial⟩) hlt fun j s hj hs=>?_
   by_cases e:j=i
   ·subst e; rw [hr] at hs; injection hs with hs; rw [<- hs]; exact hpr
   ·exact hinv j s (by omega) hs
 ·intro hinv hd
  simp only [hd,↓wA,↓wC,wB,aY,aW,reduceEqDiff,reduceAdd,reduceSub,reduceIte,reduceCtorEq,Nat.reduceBEq,reduceLT]
  rw [mZ fun j r hj=>hinv j r (bC hj) hj]
theorem vN (p:Int->Bool) (g:Nat) (c:D) (xs:List Int) (hc:c.caps=true) (he:eU prog.P g=true) (hlen:xs.length<=1048576) (hp:∀ x∈xs,Fn prog g (iD x :: c.list) (fun rs=>rs=[.bool (p x)])) :
  Fn prog 86 [.sl false 1 (dl iD xs),.clo g c] (fun rs=>rs=[.bool (xs.any p)]):=by
 refine bV (fn:=f86) (by exact func86) c86 r86 (n:=9) (by rfl) (rv:=[.tmp 4]) (by rfl) (by simp) ?_
 unfold m86
 try simp only [wQ]
 simp only [↓wA,↓wC,wB,aY,aW,reduceEqDiff,reduceAdd,reduceSub,reduceIte,reduceCtorEq,Nat.reduceBEq,reduceLT]
 refine aZ (aAN p g c xs hc he hlen hp) rfl rfl ?_
 simp only [sG,↓wA,↓wC,wB,aY,aW,reduceEqDiff,reduceAdd,reduceSub,reduceIte,reduceCtorEq,Nat.reduceBEq,reduceLT]
theorem aBv (xs:List Int) (v:Int) (hlen:xs.length<=1048576) :
  Fn prog 90 [.sl false 1 (dl iD xs),iD v] (fun rs=>rs=[.int .i64 (jL (fun x=>decide (v=x)) xs)]):=by
 refine bV (fn:=f90) (by exact func90) c90 r90 (n:=19) (by rfl) (rv:=[.tmp 4]) (by rfl) (by simp) ?_
 unfold m90
 try simp only [wQ]
 simp only [a7,iD,↓wA,↓wC,wB,aY,aW,reduceEqDiff,reduceAdd,reduceSub,reduceIte,reduceCtorEq,Nat.reduceBEq,reduceLT]
 refine cP xs.length (fun i:Nat=>⟨[(0,.d (.sl false 1 (dl iD xs))),(1,.d (iD v)),(7,.d (.int .i64 xs.length)),(8,.d (.int .i64 i))],[]⟩) (fun i=>∀ j r,j < i->xs[j]?=some r->decide (v=r)=false) (bF _ rfl ⟨⟨rfl,rfl⟩,⟨rfl,rfl⟩,⟨rfl,rfl⟩,⟨rfl,rfl⟩,trivial⟩) (fun j r hj=>by omega) ?_ ?_
 ·intro i hlt hinv hd h0
  obtain ⟨r,hr⟩:=cK hlt
  simp only [hd,h0,bW,Int.toNat_natCast,hr,Option.map_some,aV,↓e9,iD,↓wA,↓wC,wB,aY,aW,reduceEqDiff,reduceAdd,reduceSub,reduceIte,reduceCtorEq,Nat.reduceBEq,reduceLT]
  by_cases hpr:v=r
  ·simp only [decide_eq_true hpr,↓wA,↓wC,wB,aY,aW,reduceEqDiff,reduceAdd,reduceSub,reduceIte,reduceCtorEq,Nat.reduceBEq,reduceLT]
   rw [pF hr (decide_eq_true hpr) hinv]
  ·simp only [decide_eq_false hpr,↓wA,↓wC,wB,aY,aW,reduceEqDiff,reduceAdd,reduceSub,reduceIte,reduceCtorEq,Nat.reduceBEq,reduceLT]
   refine bA (by simp only [cV]; omega) ?_
   refine d8 (bF _ rfl ⟨⟨rfl,rfl⟩,⟨rfl,rfl⟩,⟨rfl,rfl⟩,⟨rfl,rfl⟩,trivial⟩) hlt fun j s hj hs=>?_
   by_cases e:j=i
   ·subst e; rw [hr] at hs; injection hs with hs; rw [<- hs]; exact decide_eq_false hpr
   ·exact hinv j s (by omega) hs
 ·intro hinv hd
  simp only [hd,↓wA,↓wC,wB,aY,aW,reduceEqDiff,reduceAdd,reduceSub,reduceIte,reduceCtorEq,Nat.reduceBEq,reduceLT]
  rw [mZ fun j r hj=>hinv j r (bC hj) hj]
theorem uQ (xs:List Int) (v:Int) (hlen:xs.length<=1048576):Fn prog 59 [.sl false 1 (dl iD xs),.int .i64 v] (fun rs=>rs=[.bool (xs.contains v)]):=by
 refine bV (fn:=f59) (by exact func59) c59 r59 (n:=9) (by rfl) (rv:=[.tmp 4]) (by rfl) (by simp) ?_
 unfold m59
 try simp only [wQ]
 simp only [↓wA,↓wC,wB,aY,aW,reduceEqDiff,reduceAdd,reduceSub,reduceIte,reduceCtorEq,Nat.reduceBEq,reduceLT]
 refine aZ (aBv xs v hlen) rfl rfl ?_
 simp only [sG,mG,↓wA,↓wC,wB,aY,aW,reduceEqDiff,reduceAdd,reduceSub,reduceIte,reduceCtorEq,Nat.reduceBEq,reduceLT]
end Go.Pe.Tryz
set_option maxRecDepth 100000
set_option maxHeartbeats 4000000
set_option linter.all false
namespace Go.Pe.Tryz
open Nat (reduceEqDiff reduceAdd reduceSub reduceLT)
open Go.Proofs.Tryz
theorem aFM {α:Type} (p:α->Bool) (xs:List α):xs.any (fun x=>!p x)=!xs.all p:=by
 induction xs with
 | nil=>rfl
 | cons a v ih=>simp [List.any_cons,List.all_cons,ih]
theorem aCG (v:List Int) (a b:Int) (hlen:v.length<=1048576):Fn prog 106 [.sl false 1 (dl iD v),.int .i64 a,.int .i64 b] (fun rs=>rs=[.bool (v.all (fun n=>bX n a b) && lH v)]):=by
 refine bV (fn:=f106) (by exact func106) aQ4 aQb (n:=38) (by rfl) (rv:=[.tmp 6]) (by rfl) (by simp) ?_
 unfold aOZ
 try simp only [wQ]
 simp only [↓wA,↓wC,wB,aY,aW,reduceEqDiff,reduceAdd,reduceSub,reduceIte,reduceCtorEq,Nat.reduceBEq,reduceLT]
 refine cP v.length (fun i:Nat=>⟨[(0,.d (.sl false 1 (dl iD v))),(1,.d (.int .i64 a)),(2,.d (.int .i64 b)),(7,.d (.int .i64 i))],[]⟩) (fun i=>(∀ j r,j < i->v[j]?=some r->bX r a b=true)/\∀ j,j + 1 < i->v.getD j 0 < v.getD (j + 1) 0) (bF _ rfl ⟨⟨rfl,rfl⟩,⟨rfl,rfl⟩,⟨rfl,rfl⟩,⟨rfl,rfl⟩,trivial⟩) ⟨fun j r hj=>by omega,fun j hj=>by omega⟩ ?_ ?_
 ·rintro i hlt ⟨hin,hri⟩ hd h0
  obtain ⟨r,hr⟩:=cK hlt
  have gr:v.getD i 0=r:=by simp [List.getD,hr]
  have hc:=jT r a b
  cases hw:bX r a b with
  | false =>
   have hres:(v.all (fun n=>bX n a b) && lH v)=false:=by
    have:v.all (fun n=>bX n a b)=false:=List.all_eq_false.2 ⟨r,List.mem_of_getElem? hr,by simp [hw]⟩
    rw [this]; rfl
   rw [hw] at hc
   repeat' (first|(simp only [a7,bW,hd,h0,Int.toNat_natCast,hr,Option.map_some,↓e9,aV,↓wA,↓wC,wB,aY,aW,reduceEqDiff,reduceAdd,reduceSub,reduceIte,reduceCtorEq,Nat.reduceBEq,reduceLT])|(refine aZ (hc) rfl rfl ?_)|(refine a6 (hc) rfl rfl ?_)|((first|apply aO|apply aQ|apply aK)<;>intro h<;>try simp only [h]))
   all_goals rw [hres]
  | true =>
   rw [hw] at hc
   have hin':∀ j s,j < i + 1->v[j]?=some s->bX s a b=true:=fun j s hj hs=>by
    by_cases e:j=i
    ·subst e; rw [hr] at hs; injection hs with hs; rw [<- hs]; exact hw
    ·exact hin j s (by omega) hs
   cases i with
   | zero =>
    have hg:decide ((0:Int) < ((0:Nat):Int))=false:=by decide
    repeat' (first|(simp only [a7,bW,hd,h0,Int.toNat_natCast,hr,Option.map_some,↓e9,aV,hg,↓wA,↓wC,wB,aY,aW,reduceEqDiff,reduceAdd,reduceSub,reduceIte,reduceCtorEq,Nat.reduceBEq,reduceLT])|(refine aZ (hc) rfl rfl ?_)|(refine a6 (hc) rfl rfl ?_)|(refine bA (by simp only [cV]; omega) ?_)|((first|apply aO|apply aQ|apply aK)<;>intro h<;>try simp only [h]))
    all_goals exact d8 (bF _ rfl ⟨⟨rfl,rfl⟩,⟨rfl,rfl⟩,⟨rfl,rfl⟩,⟨rfl,rfl⟩,trivial⟩) hlt ⟨hin',fun j hj=>by omega⟩
   | succ k =>
    obtain ⟨y,hy⟩:=cK (show k < v.length by omega)
    have gy:v.getD k 0=y:=by simp [List.getD,hy]
    have hg:decide ((0:Int) < ((k + 1:Nat):Int))=true:=decide_eq_true (by omega)
    have h1:(0:Int)<=((k + 1:Nat):Int) - 1:=by omega
    have hy':v[(((k + 1:Nat):Int) - 1).toNat]?=some y:=by rw [show (((k + 1:Nat):Int) - 1).toNat=k by omega]; exact hy
    by_cases hl:y < r
    ·have hq:decide (r<=y)=false:=decide_eq_false (by omega)
     repeat' (first|(simp only [a7,bW,hd,h0,h1,Int.toNat_natCast,hr,hy',Option.map_some,↓e9,aV,hg,hq,↓wA,↓wC,wB,aY,aW,reduceEqDiff,reduceAdd,reduceSub,reduceIte,reduceCtorEq,Nat.reduceBEq,reduceLT])|(refine aZ (hc) rfl rfl ?_)|(refine a6 (hc) rfl rfl ?_)|(refine bA (by simp only [cV]; omega) ?_)|((first|apply aO|apply aQ|apply aK)<;>intro h<;>try simp only [h]))
     all_goals refine d8 (bF _ rfl ⟨⟨rfl,rfl⟩,⟨rfl,rfl⟩,⟨rfl,rfl⟩,⟨rfl,rfl⟩,trivial⟩) hlt ⟨hin',fun j hj=>?_⟩
     by_cases e:j=k
     ·subst e; rw [gy,gr]; exact hl
     ·exact hri j (by omega)
    ·have hq:decide (r<=y)=true:=decide_eq_true (by omega)
     have hres:(v.all (fun n=>bX n a b) && lH v)=false:=by
      have:lH v=false:=by
       cases h:lH v with
       | false=>rfl
       | true =>
        have:=(mT v).1 h k hlt
        rw [gy,gr] at this; omega
      rw [this,Bool.and_false]
     repeat' (first|(simp only [a7,bW,hd,h0,h1,Int.toNat_natCast,hr,hy',Option.map_some,↓e9,aV,hg,hq,↓wA,↓wC,wB,aY,aW,reduceEqDiff,reduceAdd,reduceSub,reduceIte,reduceCtorEq,Nat.reduceBEq,reduceLT])|(refine aZ (hc) rfl rfl ?_)|(refine a6 (hc) rfl rfl ?_)|(refine bA (by simp only [cV]; omega) ?_)|((first|apply aO|apply aQ|apply aK)<;>intro h<;>try simp only [h]))
     all_goals rw [hres]
 ·rintro ⟨hin,hri⟩ hd
  have hres:(v.all (fun n=>bX n a b) && lH v)=true:=by
   rw [Bool.and_eq_true]
   refine ⟨List.all_eq_true.2 fun n hn=>?_,(mT v).2 fun j hj=>hri j hj⟩
   obtain ⟨j,hj⟩:=List.getElem?_of_mem hn
   exact hin j n (bC hj) hj
  simp only [a7,hd,↓wA,↓wC,wB,aY,aW,reduceEqDiff,reduceAdd,reduceSub,reduceIte,reduceCtorEq,Nat.reduceBEq,reduceLT]
  rw [hres]
end Go.Pe.Tryz
set_option maxRecDepth 100000
set_option maxHeartbeats 4000000
set_option linter.all false
namespace Go.Pe.Tryz
open Nat (reduceEqDiff reduceAdd reduceSub reduceLT)
open Go.Proofs.Tryz
end Go.Pe.Tryz
set_option maxRecDepth 100000
set_option maxHeartbeats 4000000
set_option linter.all false
namespace Go.Pe.Tryz
open Nat (reduceEqDiff reduceAdd reduceSub reduceLT)
open Go.Proofs.Tryz
structure Cs where
 i:Int
 a:Int
 d:Int
 h:List Int
def Cs.p (x:Cs) (dh:D):D:=.st (.cons (.int .i64 x.i) (.cons (.int .i64 x.a) (.cons (.int .i64 x.d) (.cons dh .nil))))
def Cs.s (x:Cs):D:=x.p (.sl false 1 (dl iD x.h))
def Cs.o (x:Cs):D:=x.p (.sl true 1 (dl iD x.h))
def Cs.ok0 (x:Cs):Prop:=x.h.length<=1048576
structure Off where
 day:Int
 cs:List Cs
 kept:Int
 moved:Int
 led:List (List UInt8)
def cG (o:Off) (dc dd:D):D:=.st (.cons (.int .i64 o.day) (.cons dc (.cons (.int .i64 o.kept) (.cons (.int .i64 o.moved) (.cons dd .nil)))))
def Off.s (o:Off):D:=cG o (.sl false 4 (dl Cs.s o.cs)) (.sl false 1 (dl D.str o.led))
def Off.o (o:Off):D:=cG o (.sl true 4 (dl Cs.o o.cs)) (.sl true 1 (dl D.str o.led))
def aNE (L:List (List UInt8)):Prop:=L.length<=1048576/\∀ s∈L,s.length<=1048576
def rS (xs:List Cs):Prop:=xs.length<=1048576/\∀ x∈xs,x.ok0
def Off.ok0 (o:Off):Prop:=rS o.cs/\aNE o.led
theorem bE (L:List (List UInt8)):(dl D.str L).noOwn=true:=rC (fun _=>rfl) L
theorem jG (L:List (List UInt8)):(dl D.str L).unown=dl D.str L:=u6 (fun _=>rfl) L
theorem Cs.s_noOwn (x:Cs):x.s.noOwn=true:=by simp [Cs.s,Cs.p,D.noOwn,bJ]
theorem Cs.s_unown (x:Cs):x.s.unown=x.s:=by simp [Cs.s,Cs.p,D.unown,c9]
theorem Cs.o_unown (x:Cs):x.o.unown=x.s:=by simp [Cs.o,Cs.s,Cs.p,D.unown,c9]
theorem Cs.s_isV (x:Cs):x.s.isV=true:=rfl
theorem Cs.s_size (x:Cs):x.s.size=4:=rfl
theorem Cs.o_isV (x:Cs):x.o.isV=true:=rfl
theorem Cs.o_size (x:Cs):x.o.size=4:=rfl
theorem bB (xs:List Cs):(dl Cs.s xs).noOwn=true:=rC Cs.s_noOwn xs
theorem eM (xs:List Cs):(dl Cs.s xs).unown=dl Cs.s xs:=u6 Cs.s_unown xs
theorem aBy:∀ xs:List Cs,(dl Cs.o xs).unown=dl Cs.s xs
 | []=>rfl
 | x :: xs=>by
  have:=aBy xs
  simp only [dl,List.map_cons,iM,D.unown,Cs.o_unown] at this ⊢
  rw [this]
theorem Off.s_noOwn (o:Off):o.s.noOwn=true:=by simp [Off.s,cG,D.noOwn,bB,bE]
theorem Off.s_unown (o:Off):o.s.unown=o.s:=by simp [Off.s,cG,D.unown,eM,jG]
theorem Off.o_unown (o:Off):o.o.unown=o.s:=by simp [Off.s,Off.o,cG,D.unown,aBy,jG]
theorem gH {o:List Ob} {K:SV->Prop} {x:Cs}:dY o (some 4) x.s K=K (.d x.s):=by simp [Cs.s,Cs.p,dY,D.size,D.noOwn,bJ]
theorem b9 {o:List Ob} {K:SV->Prop} {x:Off}:dY o (some 5) x.s K=K (.d x.s):=by simp [Off.s,cG,dY,D.size,D.noOwn,bB,bE]
theorem fF {α:Type} {xs:List α} {i:Nat} {r:α} (hr:xs[i]?=some r):xs.take (i + 1)=xs.take i ++ [r]:=by
 have hi:=bC hr
 rw [List.take_succ_eq_append_getElem hi]
 rw [List.getElem?_eq_getElem hi] at hr
 injection hr with hr
 rw [hr]
end Go.Pe.Tryz
set_option maxRecDepth 100000
set_option maxHeartbeats 4000000
set_option linter.all false
namespace Go.Pe.Tryz
open Nat (reduceEqDiff reduceAdd reduceSub reduceLT)
open Go.Proofs.Tryz
def xH (l:List UInt8):List Bool:=(List.range 256).map fun j=>l.contains (UInt8.ofNat j)
def sI (l:List UInt8):D:=.st (dl D.bool (xH l))
theorem aBB {w:World} {M:Nat->Prop}:∀ L:List Bool,(dl D.bool L).rep w M (L.map Value.bool) []
 | []=>⟨rfl,rfl⟩
 | b :: L=>⟨[.bool b],_,[],[],rfl,rfl,⟨rfl,rfl⟩,aBB L⟩
theorem aEs (l:List UInt8):(Lib.setCells l).toList=(xH l).map Value.bool:=by
 rw [Lib.setCells_eq]
 simp [xH,List.map_map,Function.comp_def]
theorem aLq (l:List UInt8) (x:UInt8):(xH l)[x.toNat]?=some (l.contains x):=by
 have h:=x.toNat_lt
 simp only [xH,List.getElem?_map,List.getElem?_range h,Option.map_some,UInt8.ofNat_toNat]
theorem aFh (s:List UInt8) (h128:∀ b∈s,b.toNat < 128) (hl:s.length < 4000000000):Fn prog 124 [.str s] (fun rs=>rs=[sI s,.bool true]):=by
 intro M vs w hM hG hv
 obtain ⟨cs,us,f1,f2,rfl,e,⟨rfl,_⟩,rfl,rfl⟩:=hv
 refine (Go.Proofs.Tryz.strings_makeASCIISet (fun w=>by kernel_rfl) ⟨s.toArray⟩ w (by show s.toArray.size < _; simp; omega) ?_).mono ?_
 ·intro j b hb
  exact h128 b (List.mem_of_getElem? (by simpa using hb))
 ·rintro e w' ⟨rfl,rfl⟩
  refine ⟨[sI s,.bool true],[.agg (Lib.setCells s),.bool true],[],rfl,rfl,⟨(Lib.setCells s).toList,[.bool true],[],[],rfl,rfl,?_,⟨[.bool true],[],[],[],rfl,rfl,⟨rfl,rfl⟩,rfl,rfl⟩⟩,List.nodup_nil,(by simp),iJ w _⟩
  rw [aEs]
  exact aBB _
theorem aAW:∀ (L:List Bool) (n:Nat),n<=L.length->(dl D.bool L).pre n=n
 | _,0,_=>by cases ‹List Bool›<;>rfl
 | [],n + 1,h=>by simp at h
 | b :: L,n + 1,h=>by
  have:=aAW L n (by simpa using h)
  show 1 + (dl D.bool L).pre n=n + 1
  omega
theorem uY (l:List UInt8) (x:UInt8):Fn prog 148 [.ptr (sI l),.int .u8 (x.toNat:Int)] (fun rs=>rs=[.bool (l.contains x)]):=by
 have h256:=x.toNat_lt
 have hx:=aLq l x
 have hp:=aAW (xH l) x.toNat (by simp [xH]; omega)
 have hp':(dl D.bool (xH l)).pre x.toNat=x.toNat * 1:=by omega
 refine bV (fn:=f148) (by exact func148) aP4 aSg (n:=10) (by rfl) (rv:=[.tmp 4]) (by rfl) (by simp) ?_
 unfold aO7
 try simp only [wQ]
 simp only [sI]
 repeat' (first|(simp only [aV,Int.toNat_natCast,hp',bW,hx,Option.map_some,↓wA,↓wC,wB,aY,aW,reduceEqDiff,reduceAdd,reduceSub,reduceIte,reduceCtorEq,Nat.reduceBEq,reduceLT])|(with_reducible refine bK ?_ ?_; focus omega)|((first|apply aO|apply aQ|apply aK)<;>intro h<;>try simp only [h]))
def nL (l s:List UInt8):List UInt8:=s.dropWhile (fun b=>l.contains b)
def nG (l s:List UInt8):List UInt8:=(s.reverse.dropWhile (fun b=>l.contains b)).reverse
theorem aHZ (l s:List UInt8) (hl:s.length<=1000000):Fn prog 125 [.str s,.ptr (sI l)] (fun rs=>rs=[.str (nL l s)]):=by
 refine bV (fn:=f125) (by exact func125) aRV aSO (n:=16) (by rfl) (rv:=[.tmp 4]) (by rfl) (by simp) ?_
 unfold aOF
 try simp only [wQ]
 repeat' (first|(simp only [aV,↓wA,↓wC,wB,aY,aW,reduceEqDiff,reduceAdd,reduceSub,reduceIte,reduceCtorEq,Nat.reduceBEq,reduceLT])|((first|apply aO|apply aQ|apply aK)<;>intro h<;>try simp only [h]))
 refine dZ (fun t:List UInt8=>⟨[(0,.d (.str t)),(1,.d (.ptr (sI l)))],[]⟩) (fun t=>nL l t=nL l s/\t.length<=1000000) (fun t=>t.length) s (bF _ rfl ⟨⟨rfl,rfl⟩,⟨rfl,rfl⟩,trivial⟩) ⟨rfl,hl⟩ ?_
 rintro t ⟨h1,h2⟩
 cases t with
 | nil =>
  have hd:decide ((0:Int) < ((0:Nat):Int))=false:=rfl
  repeat' (first|(simp only [aV,hd,↓wA,↓wC,wB,aY,aW,reduceEqDiff,reduceAdd,reduceSub,reduceIte,reduceCtorEq,Nat.reduceBEq,reduceLT])|((first|apply aO|apply aQ|apply aK)<;>intro h<;>try simp only [h]))
  all_goals (rw [<- h1]; rfl)
 | cons b t =>
  have hd:decide ((0:Int) < ((t.length + 1:Nat):Int))=true:=decide_eq_true (by omega)
  have hC:=uY l b
  have h0:(b :: t)[(0:Int).toNat]?=some b:=rfl
  have hdr:(b :: t).drop (1:Int).toNat=t:=rfl
  simp only [List.length_cons] at h2
  cases hb:l.contains b with
  | true =>
   rw [hb] at hC
   have e:nL l (b :: t)=nL l t:=by unfold nL; rw [List.dropWhile_cons,if_pos hb]
   repeat' (first|(simp only [aV,hd,h0,hdr,↓wA,↓wC,wB,aY,aW,reduceEqDiff,reduceAdd,reduceSub,reduceIte,reduceCtorEq,Nat.reduceBEq,reduceLT])|(refine aZ (hC) rfl rfl ?_)|(refine a6 (hC) rfl rfl ?_)|(with_reducible refine bK ?_ ?_; focus omega)|(with_reducible refine bK ?_ ?_; focus (simp; done))|((first|apply aO|apply aQ|apply aK)<;>intro h<;>try simp only [h]))
   all_goals exact ⟨t,(bF _ rfl ⟨⟨rfl,rfl⟩,⟨rfl,rfl⟩,trivial⟩),⟨by rw [<- e]; exact h1,by omega⟩,by simp⟩
  | false =>
   rw [hb] at hC
   have e:nL l (b :: t)=b :: t:=by unfold nL; rw [List.dropWhile_cons,if_neg (by rw [hb]; decide)]
   repeat' (first|(simp only [aV,hd,h0,↓wA,↓wC,wB,aY,aW,reduceEqDiff,reduceAdd,reduceSub,reduceIte,reduceCtorEq,Nat.reduceBEq,reduceLT])|(refine aZ (hC) rfl rfl ?_)|(refine a6 (hC) rfl rfl ?_)|(with_reducible refine bK ?_ ?_; focus omega)|((first|apply aO|apply aQ|apply aK)<;>intro h<;>try simp only [h]))
   all_goals (rw [<- h1,e])
theorem yB (l s:List UInt8) (b:UInt8):nG l (s ++ [b])=if l.contains b=true then nG l s else s ++ [b]:=by
 unfold nG
 rw [List.reverse_append,List.reverse_singleton,List.singleton_append,List.dropWhile_cons]
 split
 ·rfl
 ·simp
theorem aJf (l s:List UInt8) (hl:s.length<=1000000):Fn prog 126 [.str s,.ptr (sI l)] (fun rs=>rs=[.str (nG l s)]):=by
 refine bV (fn:=f126) (by exact func126) aSI aQk (n:=22) (by rfl) (rv:=[.tmp 4]) (by rfl) (by simp) ?_
 unfold aN6
 try simp only [wQ]
 repeat' (first|(simp only [aV,↓wA,↓wC,wB,aY,aW,reduceEqDiff,reduceAdd,reduceSub,reduceIte,reduceCtorEq,Nat.reduceBEq,reduceLT])|((first|apply aO|apply aQ|apply aK)<;>intro h<;>try simp only [h]))
 refine dZ (fun t:List UInt8=>⟨[(0,.d (.str t)),(1,.d (.ptr (sI l)))],[]⟩) (fun t=>nG l t=nG l s/\t.length<=1000000) (fun t=>t.length) s (bF _ rfl ⟨⟨rfl,rfl⟩,⟨rfl,rfl⟩,trivial⟩) ⟨rfl,hl⟩ ?_
 rintro t ⟨h1,h2⟩
 rcases List.eq_nil_or_concat t with rfl|⟨u,b,rfl⟩
 ·have hd:decide ((0:Int) < ((0:Nat):Int))=false:=rfl
  repeat' (first|(simp only [aV,hd,↓wA,↓wC,wB,aY,aW,reduceEqDiff,reduceAdd,reduceSub,reduceIte,reduceCtorEq,Nat.reduceBEq,reduceLT])|((first|apply aO|apply aQ|apply aK)<;>intro h<;>try simp only [h]))
  all_goals (rw [<- h1]; rfl)
 ·rw [List.concat_eq_append] at *
  have hlen:(u ++ [b]).length=u.length + 1:=by simp
  rw [hlen] at h2
  have hd:decide ((0:Int) < ((u.length + 1:Nat):Int))=true:=decide_eq_true (by omega)
  have hC:=uY l b
  have hn:(((u.length + 1:Nat):Int) - 1).toNat=u.length:=by omega
  have h0:(u ++ [b])[u.length]?=some b:=by simp
  have htk:(u ++ [b]).take u.length=u:=by simp
  have e:=yB l u b
  cases hb:l.contains b with
  | true =>
   rw [hb] at hC
   rw [if_pos hb] at e
   repeat' (first|(simp only [aV,hlen,hd,hn,h0,htk,↓wA,↓wC,wB,aY,aW,reduceEqDiff,reduceAdd,reduceSub,reduceIte,reduceCtorEq,Nat.reduceBEq,reduceLT])|(refine aZ (hC) rfl rfl ?_)|(refine a6 (hC) rfl rfl ?_)|(with_reducible refine bA ?_ ?_; focus (simp only [cV]; omega))|(with_reducible refine bK ?_ ?_; focus omega)|((first|apply aO|apply aQ|apply aK)<;>intro h<;>try simp only [h]))
   all_goals exact ⟨u,(bF _ rfl ⟨⟨rfl,rfl⟩,⟨rfl,rfl⟩,trivial⟩),⟨by rw [<- e]; exact h1,by omega⟩,by simp⟩
  | false =>
   rw [hb] at hC
   rw [if_neg (by rw [hb]; decide)] at e
   repeat' (first|(simp only [aV,hlen,hd,hn,h0,↓wA,↓wC,wB,aY,aW,reduceEqDiff,reduceAdd,reduceSub,reduceIte,reduceCtorEq,Nat.reduceBEq,reduceLT])|(refine aZ (hC) rfl rfl ?_)|(refine a6 (hC) rfl rfl ?_)|(with_reducible refine bA ?_ ?_; focus (simp only [cV]; omega))|(with_reducible refine bK ?_ ?_; focus omega)|((first|apply aO|apply aQ|apply aK)<;>intro h<;>try simp only [h]))
   all_goals (rw [<- h1,e])
def f9:List UInt8:=[97,98,99,100,101,102,103,104,105,106,107,108,109,110,111,112,113,114,115,116,117,118,119,120,121,122,48,49,50,51,52,53,54,55,56,57,32,45]
def eB (b:UInt8):Bool:=bX (b.toNat:Int) 97 122 || bX (b.toNat:Int) 48 57 || decide ((b.toNat:Int)=32) || decide ((b.toNat:Int)=45)
theorem aMB (b:UInt8):f9.contains b=eB b:=by
 have h:∀ n,n < 256->f9.contains (UInt8.ofNat n)=eB (UInt8.ofNat n):=by decide
 have:=h b.toNat b.toNat_lt
 rwa [UInt8.ofNat_toNat] at this
theorem oE {p:UInt8->Bool}:∀ (s:List UInt8),s.dropWhile p=[]↔s.all p=true
 | []=>by simp
 | b :: s=>by
  rw [List.dropWhile_cons]
  cases hb:p b with
  | true=>simp [hb,oE s]
  | false=>simp [hb]
theorem aGh (l:List UInt8):∀ (n:Nat) (s:List UInt8),s.length=n->(nL l (nG l s)=[]↔s.all (fun b=>l.contains b)=true):=by
 intro n
 induction n with
 | zero =>
  intro s hs
  obtain rfl:=List.eq_nil_of_length_eq_zero hs
  simp [nL,nG]
 | succ n IH =>
 intro s hs
 unfold nL
 rw [oE]
 rcases List.eq_nil_or_concat s with rfl|⟨u,b,rfl⟩
 ·simp [nG]
 ·rw [List.concat_eq_append,yB]
  split
  ·rename_i hb
   have ih:=IH u (by simpa using hs)
   unfold nL at ih
   rw [oE] at ih
   rw [ih,List.all_append]
   simp only [List.all_cons,List.all_nil,hb,Bool.and_true]
  ·rfl
theorem aID (l s:List UInt8):nL l (nG l s)=[]↔s.all (fun b=>l.contains b)=true:=aGh l _ s rfl
def jB (s:List UInt8):Bool:=bX s.length 1 40 && s.all eB
def aNy:D:=.st (iM (List.replicate 256 (D.bool false)))
theorem aEq (l:List UInt8):(sI l).noOwn=true:=rC (f:=D.bool) (fun _=>rfl) (xH l)
theorem aEw (l:List UInt8):(sI l).unown=sI l:=by
 show D.st (dl D.bool (xH l)).unown=_
 rw [u6 (fun _=>rfl)]; rfl
theorem yK:∀ L:List Bool,(dl D.bool L).size=L.length
 | []=>rfl
 | b :: L=>by
  have:=yK L
  show 1 + (dl D.bool L).size=L.length + 1
  omega
theorem aF1 (l:List UInt8):(sI l).size=256:=by
 show (dl D.bool (xH l)).size=256
 rw [yK]; simp [xH]
theorem aLh (s:List UInt8) (h0:0 < s.length) (hl:s.length<=1000):Fn prog 108 [.str s,.str f9] (fun rs=>rs=[.str (nL f9 (nG f9 s))]):=by
 have hM:=aFh f9 (by decide) (by decide)
 have hR:=aJf f9 s (by omega)
 have hrl:(nG f9 s).length<=s.length:=by
  unfold nG
  have:=(List.dropWhile_sublist (p:=fun b=>f9.contains b) (l:=s.reverse)).length_le
  simpa using this
 have hL:=aHZ f9 (nG f9 s) (by omega)
 have d1:decide (s=[])=false:=decide_eq_false (fun h=>by rw [h] at h0; simp at h0)
 have d2:decide (f9=[])=false:=rfl
 have d3:decide ((f9.length:Int)=1)=false:=rfl
 have n1:(sI f9).noOwn=true:=aEq _
 have n2:(sI f9).isV=true:=rfl
 have n3:=aF1 f9
 have n4:(sI f9).unown=sI f9:=aEw _
 have hz:D.st (iM (List.replicate 256 (D.bool false)))=aNy:=rfl
 have n5:aNy.size=256:=rfl
 refine fK (ps:=[[1,1,1,0,1,1,0,0]]) (fn:=f108) (by exact func108) aQM aQL (n:=43) (by rfl) (rv:=[.tmp 4]) (by rfl) (by simp) ?_
 unfold aPA
 try simp only [wQ]
 simp only [dP,eR]
 rw [hz]
 generalize aNy=Z at n5
 repeat' (first|(simp only [aV,d1,d2,d3,n1,n2,n3,n5,↓wA,↓wC,wB,aY,aW,reduceEqDiff,reduceAdd,reduceSub,reduceIte,reduceCtorEq,Nat.reduceBEq,reduceLT])|(refine aZ (hM) rfl rfl ?_)|(refine a6 (hM) rfl rfl ?_)|((first|apply aO|apply aQ|apply aK)<;>intro h<;>try simp only [h]))
 refine bR (gG 0 rfl) ?_
 repeat' (first|(simp only [aV,n4,↓wA,↓wC,wB,aY,aW,reduceEqDiff,reduceAdd,reduceSub,reduceIte,reduceCtorEq,Nat.reduceBEq,reduceLT])|(refine aZ (hR) rfl rfl ?_)|(refine a6 (hR) rfl rfl ?_)|(refine aZ (hL) rfl rfl ?_)|(refine a6 (hL) rfl rfl ?_)|((first|apply aO|apply aQ|apply aK)<;>intro h<;>try simp only [h]))
 all_goals trace_state
end Go.Pe.Tryz
set_option maxRecDepth 100000
set_option maxHeartbeats 4000000
set_option linter.all false
namespace Go.Pe.Tryz
open Nat (reduceEqDiff reduceAdd reduceSub reduceLT)
open Go.Proofs.Tryz
theorem tQ (n:Nat):bX (n:Int) 1 40=true->0 < n/\n<=40:=by
 intro h
 simp only [bX,Bool.and_eq_true,decide_eq_true_eq] at h
 omega
theorem yC (s:List UInt8):Fn prog 82 [.str s] (fun rs=>rs=[.bool (jB s)]):=by
 unfold jB
 cases hw:bX (s.length:Int) 1 40 with
 | false =>
  have hW:=eL (s.length:Int) 1 40
  rw [hw] at hW
  refine bV (fn:=f82) (by exact func82) c82 r82 (n:=11) (by rfl) (rv:=[.tmp 2]) (by rfl) (by simp) ?_
  unfold m82
  try simp only [wQ]
  repeat' (first|(simp only [↓wA,↓wC,wB,aY,aW,reduceEqDiff,reduceAdd,reduceSub,reduceIte,reduceCtorEq,Nat.reduceBEq,reduceLT])|(refine aZ (hW) rfl rfl ?_)|(refine a6 (hW) rfl rfl ?_)|((first|apply aO|apply aQ|apply aK)<;>intro h<;>try simp only [h]))
  all_goals rfl
 | true =>
  have hW:=eL (s.length:Int) 1 40
  rw [hw] at hW
  have hl:=tQ _ hw
  have hT:=aLh s hl.1 (by omega)
  have he:decide (nL f9 (nG f9 s)=[])=s.all eB:=by
   have h1:=aID f9 s
   have h2:(s.all fun b=>f9.contains b)=s.all eB:=by
    congr 1
    funext b
    exact aMB b
   rw [h2] at h1
   cases hb:s.all eB with
   | true=>exact decide_eq_true (h1.2 hb)
   | false=>exact decide_eq_false (fun h=>by rw [h1.1 h] at hb; cases hb)
  simp only [f9] at hT he
  refine bV (fn:=f82) (by exact func82) c82 r82 (n:=11) (by rfl) (rv:=[.tmp 2]) (by rfl) (by simp) ?_
  unfold m82
  try simp only [wQ]
  repeat' (first|(simp only [↓wA,↓wC,wB,aY,aW,reduceEqDiff,reduceAdd,reduceSub,reduceIte,reduceCtorEq,Nat.reduceBEq,reduceLT])|(refine aZ (hW) rfl rfl ?_)|(refine a6 (hW) rfl rfl ?_)|(refine aZ (hT) rfl rfl ?_)|(refine a6 (hT) rfl rfl ?_)|((first|apply aO|apply aQ|apply aK)<;>intro h<;>try simp only [h]))
  all_goals exact congrArg (fun b=>[D.bool b]) he
theorem aBT (b:UInt8):Fn prog 121 [.int .u8 (b.toNat:Int)] (fun rs=>rs=[.bool (bX (b.toNat:Int) 97 122)]):=by
 refine bV (fn:=f121) (by exact func121) aQg aRU (n:=9) (by rfl) (rv:=[.tmp 2]) (by rfl) (by simp) ?_
 unfold aPd
 try simp only [wQ]
 repeat' (first|(simp only [↓wA,↓wC,wB,aY,aW,reduceEqDiff,reduceAdd,reduceSub,reduceIte,reduceCtorEq,Nat.reduceBEq,reduceLT])|((first|apply aO|apply aQ|apply aK)<;>intro h<;>try simp only [h]))
 all_goals first|(simp_all [bX]; done)|(simp_all [bX]; intros; omega)
theorem aDf (s:List UInt8) (hl:s.length<=1048576):Fn prog 105 [.str s] (fun rs=>rs=[.bool (jB s)]):=by
 have hW:=jT (s.length:Int) 1 40
 unfold jB
 refine bV (fn:=f105) (by exact func105) aQ1 aRG (n:=37) (by rfl) (rv:=[.tmp 2]) (by rfl) (by simp) ?_
 unfold aPc
 try simp only [wQ]
 repeat' (first|(simp only [aV,↓wA,↓wC,wB,aY,aW,reduceEqDiff,reduceAdd,reduceSub,reduceIte,reduceCtorEq,Nat.reduceBEq,reduceLT])|((first|apply aO|apply aQ|apply aK)<;>intro h<;>try simp only [h]))
 refine cP s.length (fun i:Nat=>⟨[(0,.d (.str s)),(3,.d (.int .i64 i))],[]⟩) (fun i=>∀ j b,j < i->s[j]?=some b->eB b=true) (bF _ rfl ⟨⟨rfl,rfl⟩,⟨rfl,rfl⟩,trivial⟩) (fun j r hj=>by omega) ?_ ?_
 ·intro i hlt hinv hd h0
  obtain ⟨b,hb⟩:=cK hlt
  have hL:=aBT b
  have hbad:eB b=false->(bX (s.length:Int) 1 40 && s.all eB)=false:=by
   intro h
   have:s.all eB=false:=List.all_eq_false.2 ⟨b,List.mem_of_getElem? hb,by rw [h]; simp⟩
   rw [this,Bool.and_false]
  have hgood:eB b=true->∀ j c,j < i + 1->s[j]?=some c->eB c=true:=by
   intro h j c hj hc
   by_cases e:j=i
   ·subst e; rw [hb] at hc; injection hc with hc; rw [<- hc]; exact h
   ·exact hinv j c (by omega) hc
  cases hlt1:bX (b.toNat:Int) 97 122 with
  | true =>
   rw [hlt1] at hL
   have hg:=hgood (by unfold eB; rw [hlt1]; rfl)
   repeat' (first|(simp only [aV,hd,h0,hb,Int.toNat_natCast,↓wA,↓wC,wB,aY,aW,reduceEqDiff,reduceAdd,reduceSub,reduceIte,reduceCtorEq,Nat.reduceBEq,reduceLT])|(refine aZ (hL) rfl rfl ?_)|(refine a6 (hL) rfl rfl ?_)|(with_reducible refine bA ?_ ?_; focus (simp only [cV]; omega))|((first|apply aO|apply aQ|apply aK)<;>intro h<;>try simp only [h]))
   all_goals exact d8 (bF _ rfl ⟨⟨rfl,rfl⟩,⟨rfl,rfl⟩,trivial⟩) hlt hg
  | false =>
   rw [hlt1] at hL
   repeat' (first|(simp only [aV,hd,h0,hb,Int.toNat_natCast,↓wA,↓wC,wB,aY,aW,reduceEqDiff,reduceAdd,reduceSub,reduceIte,reduceCtorEq,Nat.reduceBEq,reduceLT])|(refine aZ (hL) rfl rfl ?_)|(refine a6 (hL) rfl rfl ?_)|(with_reducible refine bA ?_ ?_; focus (simp only [cV]; omega))|((first|apply aO|apply aQ|apply aK)<;>intro h<;>try simp only [h]))
   all_goals first
    |(refine d8 (bF _ rfl ⟨⟨rfl,rfl⟩,⟨rfl,rfl⟩,trivial⟩) hlt (hgood ?_); focus (clear hL hW hgood hbad; simp_all [eB,bX]; done))
    |(refine (congrArg (fun x=>[D.bool x]) (hbad ?_)).symm; focus (clear hL hW hgood hbad; simp_all [eB,bX]; done))
    |(refine (congrArg (fun x=>[D.bool x]) (hbad ?_)).symm; focus (clear hL hW hgood hbad hinv; simp_all [eB,bX]; intros; omega))
    |(refine (congrArg (fun x=>[D.bool x]) (hbad ?_)).symm; focus (clear hL hW hgood hbad hinv; simp_all [eB,bX]; omega))
    | trace_state
 ·intro hinv hd
  have:s.all eB=true:=List.all_eq_true.2 fun b hb=>by
   obtain ⟨j,hj⟩:=List.getElem?_of_mem hb
   exact hinv j b (bC hj) hj
  rw [this,Bool.and_true]
  repeat' (first|(simp only [aV,hd,↓wA,↓wC,wB,aY,aW,reduceEqDiff,reduceAdd,reduceSub,reduceIte,reduceCtorEq,Nat.reduceBEq,reduceLT])|(refine aZ (hW) rfl rfl ?_)|(refine a6 (hW) rfl rfl ?_)|((first|apply aO|apply aQ|apply aK)<;>intro h<;>try simp only [h]))
def d5 (L:List (List UInt8)):Bool:=bX L.length 1 8 && L.all jB
theorem aCK (s:List UInt8):Fn prog 81 [.str s] (fun rs=>rs=[.bool (!jB s)]):=by
 refine bV (fn:=f81) (by exact func81) c81 r81 (n:=6) (by rfl) (rv:=[.tmp 2]) (by rfl) (by simp) ?_
 unfold m81
 try simp only [wQ]
 repeat' (first|(simp only [↓wA,↓wC,wB,aY,aW,reduceEqDiff,reduceAdd,reduceSub,reduceIte,reduceCtorEq,Nat.reduceBEq,reduceLT])|(refine aZ (yC s) rfl rfl ?_)|(refine a6 (yC s) rfl rfl ?_)|((first|apply aO|apply aQ|apply aK)<;>intro h<;>try simp only [h]))
theorem aAB (p:(List UInt8)->Bool) (g:Nat) (c:D) (xs:List (List UInt8)) (hc:c.caps=true) (he:eU prog.P g=true) (hlen:xs.length<=1048576) (hp:∀ x∈xs,Fn prog g (D.str x :: c.list) (fun rs=>rs=[.bool (p x)])) :
  Fn prog 107 [.sl false 1 (dl D.str xs),.clo g c] (fun rs=>rs=[.int .i64 (jL p xs)]):=by
 refine bV (fn:=f107) (by exact func107) aSN aSa (n:=19) (by rfl) (rv:=[.tmp 4]) (by rfl) (by simp) ?_
 unfold aNY
 try simp only [wQ]
 simp only [a7,↓wA,↓wC,wB,aY,aW,reduceEqDiff,reduceAdd,reduceSub,reduceIte,reduceCtorEq,Nat.reduceBEq,reduceLT]
 refine cP xs.length (fun i:Nat=>⟨[(0,.d (.sl false 1 (dl D.str xs))),(1,.d (.clo g c)),(7,.d (.int .i64 xs.length)),(8,.d (.int .i64 i))],[]⟩) (fun i=>∀ j r,j < i->xs[j]?=some r->p r=false) (bF _ rfl ⟨⟨rfl,rfl⟩,⟨rfl,rfl⟩,⟨rfl,rfl⟩,⟨rfl,rfl⟩,trivial⟩) (fun j r hj=>by omega) ?_ ?_
 ·intro i hlt hinv hd h0
  obtain ⟨r,hr⟩:=cK hlt
  have hcl:=hp r (List.mem_of_getElem? hr)
  simp only [hd,h0,bW,Int.toNat_natCast,hr,Option.map_some,aV,↓aIJ,↓wA,↓wC,wB,aY,aW,reduceEqDiff,reduceAdd,reduceSub,reduceIte,reduceCtorEq,Nat.reduceBEq,reduceLT]
  refine r9 (ds:=[D.str r]) hcl he hc (by simp [cA,cW,oV,D.str]) rfl ?_
  cases hpr:p r with
  | true =>
   simp only [↓wA,↓wC,wB,aY,aW,reduceEqDiff,reduceAdd,reduceSub,reduceIte,reduceCtorEq,Nat.reduceBEq,reduceLT]
   rw [pF hr hpr hinv]
  | false =>
   simp only [↓wA,↓wC,wB,aY,aW,reduceEqDiff,reduceAdd,reduceSub,reduceIte,reduceCtorEq,Nat.reduceBEq,reduceLT]
   refine bA (by simp only [cV]; omega) ?_
   refine d8 (bF _ rfl ⟨⟨rfl,rfl⟩,⟨rfl,rfl⟩,⟨rfl,rfl⟩,⟨rfl,rfl⟩,trivial⟩) hlt fun j s hj hs=>?_
   by_cases e:j=i
   ·subst e; rw [hr] at hs; injection hs with hs; rw [<- hs]; exact hpr
   ·exact hinv j s (by omega) hs
 ·intro hinv hd
  simp only [hd,↓wA,↓wC,wB,aY,aW,reduceEqDiff,reduceAdd,reduceSub,reduceIte,reduceCtorEq,Nat.reduceBEq,reduceLT]
  rw [mZ fun j r hj=>hinv j r (bC hj) hj]
theorem wF (p:(List UInt8)->Bool) (g:Nat) (c:D) (xs:List (List UInt8)) (hc:c.caps=true) (he:eU prog.P g=true) (hlen:xs.length<=1048576) (hp:∀ x∈xs,Fn prog g (D.str x :: c.list) (fun rs=>rs=[.bool (p x)])) :
  Fn prog 80 [.sl false 1 (dl D.str xs),.clo g c] (fun rs=>rs=[.bool (xs.any p)]):=by
 refine bV (fn:=f80) (by exact func80) c80 r80 (n:=9) (by rfl) (rv:=[.tmp 4]) (by rfl) (by simp) ?_
 unfold m80
 try simp only [wQ]
 simp only [↓wA,↓wC,wB,aY,aW,reduceEqDiff,reduceAdd,reduceSub,reduceIte,reduceCtorEq,Nat.reduceBEq,reduceLT]
 refine aZ (aAB p g c xs hc he hlen hp) rfl rfl ?_
 simp only [sG,↓wA,↓wC,wB,aY,aW,reduceEqDiff,reduceAdd,reduceSub,reduceIte,reduceCtorEq,Nat.reduceBEq,reduceLT]
theorem wS (L:List (List UInt8)) (hl:L.length<=1048576):Fn prog 45 [.sl false 1 (dl D.str L)] (fun rs=>rs=[.bool (d5 L)]):=by
 have hW:=eL (L.length:Int) 1 8
 have hC:=wF (fun s=>!jB s) 81 .nil L rfl aSn hl (fun s _=>aCK s)
 rw [aFM] at hC
 unfold d5
 cases hw:bX (L.length:Int) 1 8 with
 | false =>
  rw [hw] at hW
  refine bV (fn:=f45) (by exact func45) c45 r45 (n:=11) (by rfl) (rv:=[.tmp 2]) (by rfl) (by simp) ?_
  unfold m45
  try simp only [wQ]
  repeat' (first|(simp only [a7,↓wA,↓wC,wB,aY,aW,reduceEqDiff,reduceAdd,reduceSub,reduceIte,reduceCtorEq,Nat.reduceBEq,reduceLT])|(refine aZ (hW) rfl rfl ?_)|(refine a6 (hW) rfl rfl ?_)|((first|apply aO|apply aQ|apply aK)<;>intro h<;>try simp only [h]))
  all_goals rfl
 | true =>
  rw [hw] at hW
  refine bV (fn:=f45) (by exact func45) c45 r45 (n:=11) (by rfl) (rv:=[.tmp 2]) (by rfl) (by simp) ?_
  unfold m45
  try simp only [wQ]
  repeat' (first|(simp only [a7,↓wA,↓wC,wB,aY,aW,reduceEqDiff,reduceAdd,reduceSub,reduceIte,reduceCtorEq,Nat.reduceBEq,reduceLT])|(refine aZ (hW) rfl rfl ?_)|(refine a6 (hW) rfl rfl ?_)|(refine aZ (hC) rfl rfl ?_)|(refine a6 (hC) rfl rfl ?_)|((first|apply aO|apply aQ|apply aK)<;>intro h<;>try simp only [h]))
  all_goals simp
theorem aEZ (L:List (List UInt8)) (hl:L.length<=1048576) (hx:∀ s∈L,s.length<=1048576):Fn prog 74 [.sl false 1 (dl D.str L)] (fun rs=>rs=[.bool (d5 L)]):=by
 have hW:=jT (L.length:Int) 1 8
 unfold d5
 refine bV (fn:=f74) (by exact func74) c74 r74 (n:=19) (by rfl) (rv:=[.tmp 2]) (by rfl) (by simp) ?_
 unfold m74
 try simp only [wQ]
 repeat' (first|(simp only [aV,↓wA,↓wC,wB,aY,aW,reduceEqDiff,reduceAdd,reduceSub,reduceIte,reduceCtorEq,Nat.reduceBEq,reduceLT])|((first|apply aO|apply aQ|apply aK)<;>intro h<;>try simp only [h]))
 refine cP L.length (fun i:Nat=>⟨[(0,.d (.sl false 1 (dl D.str L))),(3,.d (.int .i64 i))],[]⟩) (fun i=>∀ j b,j < i->L[j]?=some b->jB b=true) (bF _ rfl ⟨⟨rfl,rfl⟩,⟨rfl,rfl⟩,trivial⟩) (fun j r hj=>by omega) ?_ ?_
 ·intro i hlt hinv hd h0
  obtain ⟨b,hb⟩:=cK hlt
  have hE:=aDf b (hx b (List.mem_of_getElem? hb))
  cases hbo:jB b with
  | false =>
   rw [hbo] at hE
   have:L.all jB=false:=List.all_eq_false.2 ⟨b,List.mem_of_getElem? hb,by rw [hbo]; simp⟩
   rw [this,Bool.and_false]
   repeat' (first|(simp only [aV,a7,bW,hd,h0,hb,Int.toNat_natCast,Option.map_some,↓wA,↓wC,wB,aY,aW,reduceEqDiff,reduceAdd,reduceSub,reduceIte,reduceCtorEq,Nat.reduceBEq,reduceLT])|(refine aZ (hE) rfl rfl ?_)|(refine a6 (hE) rfl rfl ?_)|(with_reducible refine bA ?_ ?_; focus (simp only [cV]; omega))|((first|apply aO|apply aQ|apply aK)<;>intro h<;>try simp only [h]))
  | true =>
   rw [hbo] at hE
   repeat' (first|(simp only [aV,a7,bW,hd,h0,hb,Int.toNat_natCast,Option.map_some,↓wA,↓wC,wB,aY,aW,reduceEqDiff,reduceAdd,reduceSub,reduceIte,reduceCtorEq,Nat.reduceBEq,reduceLT])|(refine aZ (hE) rfl rfl ?_)|(refine a6 (hE) rfl rfl ?_)|(with_reducible refine bA ?_ ?_; focus (simp only [cV]; omega))|((first|apply aO|apply aQ|apply aK)<;>intro h<;>try simp only [h]))
   refine d8 (bF _ rfl ⟨⟨rfl,rfl⟩,⟨rfl,rfl⟩,trivial⟩) hlt fun j c hj hc=>?_
   by_cases e:j=i
   ·subst e; rw [hb] at hc; injection hc with hc; rw [<- hc]; exact hbo
   ·exact hinv j c (by omega) hc
 ·intro hinv hd
  have:L.all jB=true:=List.all_eq_true.2 fun b hb=>by
   obtain ⟨j,hj⟩:=List.getElem?_of_mem hb
   exact hinv j b (bC hj) hj
  rw [this,Bool.and_true]
  repeat' (first|(simp only [aV,a7,hd,↓wA,↓wC,wB,aY,aW,reduceEqDiff,reduceAdd,reduceSub,reduceIte,reduceCtorEq,Nat.reduceBEq,reduceLT])|(refine aZ (hW) rfl rfl ?_)|(refine a6 (hW) rfl rfl ?_)|((first|apply aO|apply aQ|apply aK)<;>intro h<;>try simp only [h]))
def d7 (x:Cs):Bool:=bX x.i 1 999 && bX x.a 1 3 && bX x.d 0 20000 && decide ((x.h.length:Int)<=5) && (x.h.all (fun n=>bX n 1 9) && lH x.h)
theorem aAE (n:Int):Fn prog 83 [.int .i64 n] (fun rs=>rs=[.bool (bX n 1 999)]):=by
 refine bV (fn:=f83) (by exact func83) c83 r83 (n:=5) (by rfl) (rv:=[.tmp 2]) (by rfl) (by simp) ?_
 unfold m83
 try simp only [wQ]
 repeat' (first|(simp only [↓wA,↓wC,wB,aY,aW,reduceEqDiff,reduceAdd,reduceSub,reduceIte,reduceCtorEq,Nat.reduceBEq,reduceLT])|(refine aZ (eL _ _ _) rfl rfl ?_)|(refine a6 (eL _ _ _) rfl rfl ?_)|((first|apply aO|apply aQ|apply aK)<;>intro h<;>try simp only [h]))
theorem aIH (n:Int):Fn prog 84 [.int .i64 n] (fun rs=>rs=[.bool (bX n 1 3)]):=by
 refine bV (fn:=f84) (by exact func84) c84 r84 (n:=5) (by rfl) (rv:=[.tmp 2]) (by rfl) (by simp) ?_
 unfold m84
 try simp only [wQ]
 repeat' (first|(simp only [↓wA,↓wC,wB,aY,aW,reduceEqDiff,reduceAdd,reduceSub,reduceIte,reduceCtorEq,Nat.reduceBEq,reduceLT])|(refine aZ (eL _ _ _) rfl rfl ?_)|(refine a6 (eL _ _ _) rfl rfl ?_)|((first|apply aO|apply aQ|apply aK)<;>intro h<;>try simp only [h]))
theorem qF (n:Int):Fn prog 57 [.int .i64 n] (fun rs=>rs=[.bool (bX n 1 9)]):=by
 refine bV (fn:=f57) (by exact func57) c57 r57 (n:=5) (by rfl) (rv:=[.tmp 2]) (by rfl) (by simp) ?_
 unfold m57
 try simp only [wQ]
 repeat' (first|(simp only [↓wA,↓wC,wB,aY,aW,reduceEqDiff,reduceAdd,reduceSub,reduceIte,reduceCtorEq,Nat.reduceBEq,reduceLT])|(refine aZ (eL _ _ _) rfl rfl ?_)|(refine a6 (eL _ _ _) rfl rfl ?_)|((first|apply aO|apply aQ|apply aK)<;>intro h<;>try simp only [h]))
theorem aEb (n:Int):Fn prog 87 [.int .i64 n] (fun rs=>rs=[.bool (!bX n 1 9)]):=by
 refine bV (fn:=f87) (by exact func87) c87 r87 (n:=6) (by rfl) (rv:=[.tmp 2]) (by rfl) (by simp) ?_
 unfold m87
 try simp only [wQ]
 repeat' (first|(simp only [↓wA,↓wC,wB,aY,aW,reduceEqDiff,reduceAdd,reduceSub,reduceIte,reduceCtorEq,Nat.reduceBEq,reduceLT])|(refine aZ (qF n) rfl rfl ?_)|(refine a6 (qF n) rfl rfl ?_)|((first|apply aO|apply aQ|apply aK)<;>intro h<;>try simp only [h]))
theorem aF8 (x:Cs) (hx:x.ok0):Fn prog 46 [x.s] (fun rs=>rs=[.bool (d7 x)]):=by
 have hR:=aAE x.i
 have hA:=aIH x.a
 have hD:=aDQ x.d
 have hS:=aCm x.h hx
 have hC:=vN (fun n=>!bX n 1 9) 87 .nil x.h rfl aRl hx (fun n _=>aEb n)
 rw [aFM] at hC
 unfold d7
 generalize bX x.i 1 999=b1 at *
 generalize bX x.a 1 3=b2 at *
 generalize bX x.d 0 20000=b3 at *
 generalize (x.h.all fun n=>bX n 1 9)=b4 at *
 generalize lH x.h=b5 at *
 refine bV (fn:=f46) (by exact func46) c46 r46 (n:=33) (by rfl) (rv:=[.tmp 2]) (by rfl) (by simp) ?_
 unfold m46
 try simp only [wQ]
 simp only [Cs.s,Cs.p]
 repeat' (first|(simp only [bJ,aV,a7,↓wA,↓wC,wB,aY,aW,reduceEqDiff,reduceAdd,reduceSub,reduceIte,reduceCtorEq,Nat.reduceBEq,reduceLT])|(refine aZ (hR) rfl rfl ?_)|(refine a6 (hR) rfl rfl ?_)|(refine aZ (hA) rfl rfl ?_)|(refine a6 (hA) rfl rfl ?_)|(refine aZ (hD) rfl rfl ?_)|(refine a6 (hD) rfl rfl ?_)|(refine aZ (hS) rfl rfl ?_)|(refine a6 (hS) rfl rfl ?_)|(refine aZ (hC) rfl rfl ?_)|(refine a6 (hC) rfl rfl ?_)|((first|apply aO|apply aQ|apply aK)<;>intro h<;>try simp only [h]))
 all_goals (clear hR hA hD hS hC; simp_all)
theorem aFl (x:Cs) (hx:x.ok0):Fn prog 75 [x.s] (fun rs=>rs=[.bool (d7 x)]):=by
 have hR:=jT x.i 1 999
 have hA:=jT x.a 1 3
 have hD:=x6 x.d
 have hS:=aCG x.h 1 9 hx
 unfold d7
 generalize bX x.i 1 999=b1 at *
 generalize bX x.a 1 3=b2 at *
 generalize bX x.d 0 20000=b3 at *
 generalize ((x.h.all fun n=>bX n 1 9) && lH x.h)=b4 at *
 refine bV (fn:=f75) (by exact func75) c75 r75 (n:=27) (by rfl) (rv:=[.tmp 2]) (by rfl) (by simp) ?_
 unfold m75
 try simp only [wQ]
 simp only [Cs.s,Cs.p]
 repeat' (first|(simp only [bJ,aV,a7,↓wA,↓wC,wB,aY,aW,reduceEqDiff,reduceAdd,reduceSub,reduceIte,reduceCtorEq,Nat.reduceBEq,reduceLT])|(refine aZ (hR) rfl rfl ?_)|(refine a6 (hR) rfl rfl ?_)|(refine aZ (hA) rfl rfl ?_)|(refine a6 (hA) rfl rfl ?_)|(refine aZ (hD) rfl rfl ?_)|(refine a6 (hD) rfl rfl ?_)|(refine aZ (hS) rfl rfl ?_)|(refine a6 (hS) rfl rfl ?_)|((first|apply aO|apply aQ|apply aK)<;>intro h<;>try simp only [h]))
 all_goals (clear hR hA hD hS; simp_all)
end Go.Pe.Tryz
set_option maxRecDepth 100000
set_option maxHeartbeats 4000000
set_option linter.all false
namespace Go.Pe.Tryz
open Nat (reduceEqDiff reduceAdd reduceSub reduceLT)
open Go.Proofs.Tryz
theorem nJ {x:Cs} {K:SV->Prop}:bY 0 0 (.d (.ptr x.s)) K=K (.d (.ptr (.int .i64 x.i))):=by simp [Cs.s,Cs.p,bY,D.pre,D.nth,D.size]
theorem v8 {x:Cs} {K:SV->Prop}:bY 1 1 (.d (.ptr x.s)) K=K (.d (.ptr (.int .i64 x.a))):=by simp [Cs.s,Cs.p,bY,D.pre,D.nth,D.size]
theorem rI {x:Cs} {K:SV->Prop}:bY 2 2 (.d (.ptr x.s)) K=K (.d (.ptr (.int .i64 x.d))):=by simp [Cs.s,Cs.p,bY,D.pre,D.nth,D.size]
theorem tL {x:Cs} {K:SV->Prop}:bY 3 3 (.d (.ptr x.s)) K=K (.d (.ptr (.sl false 1 (dl iD x.h)))):=by simp [Cs.s,Cs.p,bY,D.pre,D.nth,D.size]
theorem eZ {x:Cs}:eV [0] x.s=0:=rfl
theorem iA {x:Cs}:eV [1] x.s=1:=rfl
theorem gU {x:Cs}:eV [2] x.s=2:=rfl
theorem fB {x:Cs}:eV [3] x.s=3:=rfl
theorem eX {x:Cs}:iS [0] x.s=some (.int .i64 x.i):=rfl
theorem iB {x:Cs}:iS [1] x.s=some (.int .i64 x.a):=rfl
theorem gT {x:Cs}:iS [2] x.s=some (.int .i64 x.d):=rfl
theorem fC {x:Cs}:iS [3] x.s=some (.sl false 1 (dl iD x.h)):=rfl
theorem Off.s_isV (o:Off):o.s.isV=true:=rfl
theorem Off.s_size (o:Off):o.s.size=5:=rfl
theorem Off.o_isV (o:Off):o.o.isV=true:=rfl
theorem Off.o_size (o:Off):o.o.size=5:=rfl
def ltC (xs:List Cs) (i:Nat) (x:Cs):Bool:=match i with
 | 0=>true
 | k + 1=>match xs[k]? with
  | some y=>decide (y.i < x.i)
  | none=>true
def yL (xs:List Cs) (i:Nat):Bool:=match xs[i]? with
 | some x=>d7 x && ltC xs i x
 | none=>false
theorem qX {xs:List Cs} {i:Nat} {x:Cs} (hr:xs[i]?=some x):yL xs i=(d7 x && ltC xs i x):=by
 unfold yL; rw [hr]
def pR (xs:List Cs):Bool:=(List.range xs.length).all (yL xs)
theorem oB {xs:List Cs} {i:Nat} (hi:i < xs.length) (h:yL xs i=false):pR xs=false:=by
 refine List.all_eq_false.2 ⟨i,List.mem_range.2 hi,by rw [h]; simp⟩
theorem qR {xs:List Cs} (h:∀ j,j < xs.length->yL xs j=true):pR xs=true :=
 List.all_eq_true.2 fun j hj=>h j (List.mem_range.1 hj)
def wV (L:List (List UInt8)):Bool:=!decide ((0:Int) < (L.length:Int)) || d5 L
def mW (o:Off):Bool:=bX o.day 0 20000 && decide ((o.cs.length:Int)<=6) && bX o.kept 0 999 && bX o.moved 0 999 && wV o.led
def cM (o:Off):Bool:=mW o && pR o.cs
theorem aMh {xs:List Cs} {i:Nat} {x:Cs} (hlt:i < xs.length):(decide ((0:Int) < (i:Int))=false/\ltC xs i x=true)\/∃ y,decide ((0:Int) < (i:Int))=true/\(0:Int)<=(i:Int) - 1/\xs[((i:Int) - 1).toNat]?=some y/\decide (x.i<=y.i)=!ltC xs i x:=by
 cases i with
 | zero=>exact .inl ⟨rfl,rfl⟩
 | succ k =>
  obtain ⟨y,hy⟩:=cK (show k < xs.length by omega)
  refine .inr ⟨y,decide_eq_true (by omega),by omega,?_,?_⟩
  ·rw [show (((k + 1:Nat):Int) - 1).toNat=k by omega]; exact hy
  ·have:ltC xs (k + 1) x=decide (y.i < x.i):=by simp only [ltC,hy]
   rw [this]
   by_cases h:y.i < x.i
   ·rw [decide_eq_true h,decide_eq_false (by omega)]; rfl
   ·rw [decide_eq_false h,decide_eq_true (by omega)]; rfl
theorem jF (o:Off) (ho:o.ok0):Fn prog 10 [o.s] (fun rs=>rs=[.bool (cM o)]):=by
 have hDay:=aDQ o.day
 have hK:=eL o.kept 0 999
 have hM:=eL o.moved 0 999
 have hL:=wS o.led ho.2.1
 have hlen:=ho.1.1
 have hh:mW o=(bX o.day 0 20000 && decide ((o.cs.length:Int)<=6) && bX o.kept 0 999 && bX o.moved 0 999 && wV o.led):=rfl
 unfold wV at hh
 unfold cM
 have body:mW o=true->Fn prog 10 [o.s] (fun rs=>rs=[.bool (pR o.cs)]):=by
  intro hho
  rw [hh] at hho
  simp only [Bool.and_eq_true] at hho
  obtain ⟨⟨⟨⟨q1,q2⟩,q3⟩,q4⟩,q5⟩:=hho
  rw [q1] at hDay
  rw [q3] at hK
  rw [q4] at hM
  have q2':=of_decide_eq_true q2
  have e2:decide ((6:Int) < (o.cs.length:Int))=false:=decide_eq_false (by omega)
  generalize hlg:d5 o.led=b5 at *
  refine bV (fn:=f10) (by exact func10) c10 r10 (n:=67) (by rfl) (rv:=[.tmp 2]) (by rfl) (by simp) ?_
  unfold m10
  try simp only [wQ]
  simp only [Off.s,cG]
  repeat' (first|(simp only [bB,bE,aV,a7,e2,↓wA,↓wC,wB,aY,aW,reduceEqDiff,reduceAdd,reduceSub,reduceIte,reduceCtorEq,Nat.reduceBEq,reduceLT])|(refine aZ (hDay) rfl rfl ?_)|(refine a6 (hDay) rfl rfl ?_)|(refine aZ (hK) rfl rfl ?_)|(refine a6 (hK) rfl rfl ?_)|(refine aZ (hM) rfl rfl ?_)|(refine a6 (hM) rfl rfl ?_)|(refine aZ (hL) rfl rfl ?_)|(refine a6 (hL) rfl rfl ?_)|((first|apply aO|apply aQ|apply aK)<;>intro h<;>try simp only [h]))
  any_goals (exfalso; clear hDay hK hM hL; simp_all; done)
  all_goals
   refine cP o.cs.length (fun i:Nat=>⟨[(1,.ptr 0 0 []),(40,.d (.sl false 4 (dl Cs.s o.cs))),(41,.d (.int .i64 o.cs.length)),(42,.d (.int .i64 i))],[.box o.s]⟩) (fun i=>∀ j,j < i->yL o.cs j=true) (bF _ rfl ⟨⟨rfl,rfl⟩,⟨rfl,rfl⟩,⟨rfl,rfl⟩,⟨rfl,rfl⟩,trivial⟩) (fun j hj=>by omega) ?_ ?_
   ·intro i hlt hinv hd h0
    obtain ⟨x,hr⟩:=cK hlt
    have hst:=qX hr
    have hok:=aF8 x (ho.1.2 x (List.mem_of_getElem? hr))
    simp only [Off.s,cG]
    rcases aMh (x:=x) hlt with ⟨hg,hl⟩|⟨y,hg,h1,hy,hq⟩
    ·rw [hl,Bool.and_true] at hst
     repeat' (first|(simp only [bB,bE,a7,bW,hd,h0,hg,Int.toNat_natCast,hr,Option.map_some,↓gH,Cs.s_noOwn,Cs.s_isV,Cs.s_size,Cs.s_unown,aV,↓wA,↓wC,wB,aY,aW,reduceEqDiff,reduceAdd,reduceSub,reduceIte,reduceCtorEq,Nat.reduceBEq,reduceLT])|(refine aZ (hok) rfl rfl ?_)|(refine a6 (hok) rfl rfl ?_)|(with_reducible refine bA ?_ ?_; focus (simp only [cV]; omega))|((first|apply aO|apply aQ|apply aK)<;>intro h<;>try simp only [h]))
     all_goals first
      |(refine d8 (bF _ rfl ⟨⟨rfl,rfl⟩,⟨rfl,rfl⟩,⟨rfl,rfl⟩,⟨rfl,rfl⟩,trivial⟩) hlt (uW hinv ?_); focus (clear hok; rw [hst]; simp_all; done))
      |(refine (congrArg (fun b=>[D.bool b]) (oB hlt ?_)).symm; focus (clear hok; rw [hst]; simp_all; done))
      | trace_state
    ·repeat' (first|(simp only [bB,bE,a7,bW,hd,h0,hg,h1,hy,hq,Int.toNat_natCast,hr,Option.map_some,↓gH,↓nJ,eZ,eX,Cs.s_noOwn,Cs.s_isV,Cs.s_size,Cs.s_unown,aV,↓wA,↓wC,wB,aY,aW,reduceEqDiff,reduceAdd,reduceSub,reduceIte,reduceCtorEq,Nat.reduceBEq,reduceLT])|(refine aZ (hok) rfl rfl ?_)|(refine a6 (hok) rfl rfl ?_)|(with_reducible refine bA ?_ ?_; focus (simp only [cV]; omega))|((first|apply aO|apply aQ|apply aK)<;>intro h<;>try simp only [h]))
     all_goals first
      |(refine d8 (bF _ rfl ⟨⟨rfl,rfl⟩,⟨rfl,rfl⟩,⟨rfl,rfl⟩,⟨rfl,rfl⟩,trivial⟩) hlt (uW hinv ?_); focus (clear hok; rw [hst]; simp_all; done))
      |(refine (congrArg (fun b=>[D.bool b]) (oB hlt ?_)).symm; focus (clear hok; rw [hst]; simp_all; done))
      | trace_state
   ·intro hinv hd
    have hall:=qR hinv
    rw [hall]
    simp only [Off.s,cG]
    repeat' (first|(simp only [bB,bE,a7,hd,aV,↓wA,↓wC,wB,aY,aW,reduceEqDiff,reduceAdd,reduceSub,reduceIte,reduceCtorEq,Nat.reduceBEq,reduceLT])|((first|apply aO|apply aQ|apply aK)<;>intro h<;>try simp only [h]))
 cases hho:mW o with
 | true=>simpa using body hho
 | false =>
  rw [hh] at hho
  rw [Bool.false_and]
  generalize hlg:d5 o.led=b5 at *
  generalize bX o.day 0 20000=b1 at *
  generalize bX o.kept 0 999=b3 at *
  generalize bX o.moved 0 999=b4 at *
  refine bV (fn:=f10) (by exact func10) c10 r10 (n:=67) (by rfl) (rv:=[.tmp 2]) (by rfl) (by simp) ?_
  unfold m10
  try simp only [wQ]
  simp only [Off.s,cG]
  repeat' (first|(simp only [bB,bE,aV,a7,↓wA,↓wC,wB,aY,aW,reduceEqDiff,reduceAdd,reduceSub,reduceIte,reduceCtorEq,Nat.reduceBEq,reduceLT])|(refine aZ (hDay) rfl rfl ?_)|(refine a6 (hDay) rfl rfl ?_)|(refine aZ (hK) rfl rfl ?_)|(refine a6 (hK) rfl rfl ?_)|(refine aZ (hM) rfl rfl ?_)|(refine a6 (hM) rfl rfl ?_)|(refine aZ (hL) rfl rfl ?_)|(refine a6 (hL) rfl rfl ?_)|((first|apply aO|apply aQ|apply aK)<;>intro h<;>try simp only [h]))
  all_goals first
   | rfl
   |(exfalso; clear hDay hK hM hL body; simp_all; done)
   |(exfalso; clear hDay hK hM hL body; simp_all; omega)
theorem eW (o:Off) (ho:o.ok0):Fn prog 40 [o.s] (fun rs=>rs=[.bool (cM o)]):=by
 have hDay:=x6 o.day
 have hK:=jT o.kept 0 999
 have hM:=jT o.moved 0 999
 have hL:=aEZ o.led ho.2.1 ho.2.2
 have hlen:=ho.1.1
 have hh:mW o=(bX o.day 0 20000 && decide ((o.cs.length:Int)<=6) && bX o.kept 0 999 && bX o.moved 0 999 && wV o.led):=rfl
 unfold wV at hh
 unfold cM
 have body:mW o=true->Fn prog 40 [o.s] (fun rs=>rs=[.bool (pR o.cs)]):=by
  intro hho
  rw [hh] at hho
  simp only [Bool.and_eq_true] at hho
  obtain ⟨⟨⟨⟨q1,q2⟩,q3⟩,q4⟩,q5⟩:=hho
  rw [q1] at hDay
  rw [q3] at hK
  rw [q4] at hM
  have q2':=of_decide_eq_true q2
  have e2:decide ((6:Int) < (o.cs.length:Int))=false:=decide_eq_false (by omega)
  generalize hlg:d5 o.led=b5 at *
  refine bV (fn:=f40) (by exact func40) c40 r40 (n:=72) (by rfl) (rv:=[.tmp 2]) (by rfl) (by simp) ?_
  unfold m40
  try simp only [wQ]
  simp only [Off.s,cG]
  repeat' (first|(simp only [bB,bE,aV,a7,e2,↓wA,↓wC,wB,aY,aW,reduceEqDiff,reduceAdd,reduceSub,reduceIte,reduceCtorEq,Nat.reduceBEq,reduceLT])|(refine aZ (hDay) rfl rfl ?_)|(refine a6 (hDay) rfl rfl ?_)|(refine aZ (hK) rfl rfl ?_)|(refine a6 (hK) rfl rfl ?_)|(refine aZ (hM) rfl rfl ?_)|(refine a6 (hM) rfl rfl ?_)|(refine aZ (hL) rfl rfl ?_)|(refine a6 (hL) rfl rfl ?_)|((first|apply aO|apply aQ|apply aK)<;>intro h<;>try simp only [h]))
  any_goals (exfalso; clear hDay hK hM hL; simp_all; done)
  all_goals
   refine cP o.cs.length (fun i:Nat=>⟨[(1,.ptr 0 0 []),(3,.d (.int .i64 i))],[.box o.s]⟩) (fun i=>∀ j,j < i->yL o.cs j=true) (bF _ rfl ⟨⟨rfl,rfl⟩,⟨rfl,rfl⟩,trivial⟩) (fun j hj=>by omega) ?_ ?_
   ·intro i hlt hinv hd h0
    obtain ⟨x,hr⟩:=cK hlt
    have hst:=qX hr
    have hok:=aFl x (ho.1.2 x (List.mem_of_getElem? hr))
    simp only [Off.s,cG]
    rcases aMh (x:=x) hlt with ⟨hg,hl⟩|⟨y,hg,h1,hy,hq⟩
    ·rw [hl,Bool.and_true] at hst
     repeat' (first|(simp only [bB,bE,a7,bW,hd,h0,hg,Int.toNat_natCast,hr,Option.map_some,↓gH,Cs.s_noOwn,Cs.s_isV,Cs.s_size,Cs.s_unown,aV,↓wA,↓wC,wB,aY,aW,reduceEqDiff,reduceAdd,reduceSub,reduceIte,reduceCtorEq,Nat.reduceBEq,reduceLT])|(refine aZ (hok) rfl rfl ?_)|(refine a6 (hok) rfl rfl ?_)|(with_reducible refine bA ?_ ?_; focus (simp only [cV]; omega))|((first|apply aO|apply aQ|apply aK)<;>intro h<;>try simp only [h]))
     all_goals first
      |(refine d8 (bF _ rfl ⟨⟨rfl,rfl⟩,⟨rfl,rfl⟩,trivial⟩) hlt (uW hinv ?_); focus (clear hok; rw [hst]; simp_all; done))
      |(refine (congrArg (fun b=>[D.bool b]) (oB hlt ?_)).symm; focus (clear hok; rw [hst]; simp_all; done))
      | trace_state
    ·repeat' (first|(simp only [bB,bE,a7,bW,hd,h0,hg,h1,hy,hq,Int.toNat_natCast,hr,Option.map_some,↓gH,↓nJ,eZ,eX,Cs.s_noOwn,Cs.s_isV,Cs.s_size,Cs.s_unown,aV,↓wA,↓wC,wB,aY,aW,reduceEqDiff,reduceAdd,reduceSub,reduceIte,reduceCtorEq,Nat.reduceBEq,reduceLT])|(refine aZ (hok) rfl rfl ?_)|(refine a6 (hok) rfl rfl ?_)|(with_reducible refine bA ?_ ?_; focus (simp only [cV]; omega))|((first|apply aO|apply aQ|apply aK)<;>intro h<;>try simp only [h]))
     all_goals first
      |(refine d8 (bF _ rfl ⟨⟨rfl,rfl⟩,⟨rfl,rfl⟩,trivial⟩) hlt (uW hinv ?_); focus (clear hok; rw [hst]; simp_all; done))
      |(refine (congrArg (fun b=>[D.bool b]) (oB hlt ?_)).symm; focus (clear hok; rw [hst]; simp_all; done))
      | trace_state
   ·intro hinv hd
    have hall:=qR hinv
    rw [hall]
    simp only [Off.s,cG]
    repeat' (first|(simp only [bB,bE,a7,hd,aV,↓wA,↓wC,wB,aY,aW,reduceEqDiff,reduceAdd,reduceSub,reduceIte,reduceCtorEq,Nat.reduceBEq,reduceLT])|((first|apply aO|apply aQ|apply aK)<;>intro h<;>try simp only [h]))
 cases hho:mW o with
 | true=>simpa using body hho
 | false =>
  rw [hh] at hho
  rw [Bool.false_and]
  generalize hlg:d5 o.led=b5 at *
  generalize bX o.day 0 20000=b1 at *
  generalize bX o.kept 0 999=b3 at *
  generalize bX o.moved 0 999=b4 at *
  refine bV (fn:=f40) (by exact func40) c40 r40 (n:=72) (by rfl) (rv:=[.tmp 2]) (by rfl) (by simp) ?_
  unfold m40
  try simp only [wQ]
  simp only [Off.s,cG]
  repeat' (first|(simp only [bB,bE,aV,a7,↓wA,↓wC,wB,aY,aW,reduceEqDiff,reduceAdd,reduceSub,reduceIte,reduceCtorEq,Nat.reduceBEq,reduceLT])|(refine aZ (hDay) rfl rfl ?_)|(refine a6 (hDay) rfl rfl ?_)|(refine aZ (hK) rfl rfl ?_)|(refine a6 (hK) rfl rfl ?_)|(refine aZ (hM) rfl rfl ?_)|(refine a6 (hM) rfl rfl ?_)|(refine aZ (hL) rfl rfl ?_)|(refine a6 (hL) rfl rfl ?_)|((first|apply aO|apply aQ|apply aK)<;>intro h<;>try simp only [h]))
  all_goals first
   | rfl
   |(exfalso; clear hDay hK hM hL body; simp_all; done)
   |(exfalso; clear hDay hK hM hL body; simp_all; omega)
def Off.raw (o:Off):Prop:=o.cs.length<=maxLen/\(∀ x∈o.cs,x.h.length<=maxLen)/\o.led.length<=maxLen/\∀ s∈o.led,s.length<=maxLen
end Go.Pe.Tryz
set_option maxRecDepth 100000
set_option maxHeartbeats 4000000
set_option linter.all false
namespace Go.Pe.Tryz
open Nat (reduceEqDiff reduceAdd reduceSub reduceLT)
open Go.Proofs.Tryz
theorem sD {x:Off}:eV [0] x.s=0:=rfl
theorem gZ {x:Off}:eV [1] x.s=1:=rfl
theorem rQ {x:Off}:iS [0] x.s=some (.int .i64 x.day):=rfl
theorem g7 {x:Off}:iS [1] x.s=some (.sl false 4 (dl Cs.s x.cs)):=rfl
theorem gD {x:Off} {K:SV->Prop}:bY 0 0 (.d (.ptr x.s)) K=K (.d (.ptr (.int .i64 x.day))):=by simp [Off.s,cG,bY,D.pre,D.nth,D.size]
def gP (p:Cs->Bool) (xs:List Cs):List Int:=(xs.filter p).map Cs.i
theorem qC {p:Cs->Bool} {xs:List Cs} {i:Nat} {x:Cs} (hr:xs[i]?=some x):gP p (xs.take (i + 1))=gP p (xs.take i) ++ (if p x=true then [x.i] else []):=by
 unfold gP
 rw [fF hr,List.filter_append,List.map_append]
 cases h:p x<;>simp [h]
theorem mU (p:Cs->Bool) (xs:List Cs):(gP p xs).length<=xs.length:=by
 unfold gP
 rw [List.length_map]
 exact List.length_filter_le _ _
theorem eS (V:List Int) (n:Int):(dl iD V).app (D.cons (.int .i64 n) .nil)=dl iD (V ++ [n]):=iG (f:=iD) V n
theorem s9 (p:Cs->Bool) (g:Nat) (c:D) (o:Off) (ho:o.ok0) (hc:c.caps=true) (he:eU prog.P g=true) (hp:∀ x∈o.cs,Fn prog g (x.s :: c.list) (fun rs=>rs=[.bool (p x)])):Fn prog 47 [o.s,.clo g c] (fun rs=>rs=[.sl true 1 (dl iD (gP p o.cs))]):=by
 have hlen:=ho.1.1
 refine bV (fn:=f47) (by exact func47) c47 r47 (n:=25) (by rfl) (rv:=[.tmp 4]) (by rfl) (by simp) ?_
 unfold m47
 try simp only [wQ]
 repeat' (first|(simp only [Off.s_noOwn,Off.s_isV,aV,a7,bB,gZ,g7,↓wA,↓wC,wB,aY,aW,reduceEqDiff,reduceAdd,reduceSub,reduceIte,reduceCtorEq,Nat.reduceBEq,reduceLT])|((first|apply aO|apply aQ|apply aK)<;>intro h<;>try simp only [h]))
 refine w4 [(5,1)] o.cs.length (fun i:Nat=>⟨[(1,.d (.clo g c)),(5,.own 1),(9,.d (.sl false 4 (dl Cs.s o.cs))),(10,.d (.int .i64 o.cs.length)),(11,.d (.int .i64 i))],[.box o.s,.val (.sl true 1 (dl iD (gP p (o.cs.take i))))]⟩) (fun _=>True) ⟨rfl,trivial⟩ ?_ trivial ?_ ?_
 ·exact (bF _ rfl ⟨⟨rfl,rfl⟩,⟨rfl,rfl⟩,⟨rfl,rfl⟩,⟨rfl,rfl⟩,⟨rfl,rfl⟩,trivial⟩)
 ·intro i hlt _ hd h0
  obtain ⟨x,hr⟩:=cK hlt
  have hW:=hp x (List.mem_of_getElem? hr)
  have hsn:=qC (p:=p) hr
  have hvl:=mU p (o.cs.take i)
  rw [List.length_take,Nat.min_eq_left (by omega)] at hvl
  repeat' (first|(simp only [a7,hd,h0,bW,Int.toNat_natCast,hr,Option.map_some,aV,↓gH,Cs.s_isV,Cs.s_size,Cs.s_noOwn,↓wA,↓wC,wB,aY,aW,reduceEqDiff,reduceAdd,reduceSub,reduceIte,reduceCtorEq,Nat.reduceBEq,reduceLT])|((first|apply aO|apply aQ|apply aK)<;>intro h<;>try simp only [h]))
  refine r9 (ds:=[x.s]) hW he hc (by simp [cA,cW,oV,Cs.s_unown]) rfl ?_
  cases hw:p x with
  | false =>
   rw [hw] at hsn
   repeat' (first|(simp only [aV,↓wA,↓wC,wB,aY,aW,reduceEqDiff,reduceAdd,reduceSub,reduceIte,reduceCtorEq,Nat.reduceBEq,reduceLT])|(with_reducible refine bA ?_ ?_; focus (simp only [cV]; omega))|((first|apply aO|apply aQ|apply aK)<;>intro h<;>try simp only [h]))
   refine ⟨i + 1,?_,by omega,by omega⟩
   rw [hsn]
   simp only [Bool.false_eq_true,if_false,List.append_nil]
   exact (bF _ rfl ⟨⟨rfl,rfl⟩,⟨rfl,rfl⟩,⟨rfl,rfl⟩,⟨rfl,rfl⟩,⟨rfl,rfl⟩,trivial⟩)
  | true =>
   rw [hw] at hsn
   repeat' (first|(simp only [a7,aV,eZ,eX,eS,↓wA,↓wC,wB,aY,aW,reduceEqDiff,reduceAdd,reduceSub,reduceIte,reduceCtorEq,Nat.reduceBEq,reduceLT])|(with_reducible refine bA ?_ ?_; focus (simp only [cV]; omega))|(with_reducible refine bK ?_ ?_; focus omega)|(with_reducible refine bK ?_ ?_; focus (simp; done))|((first|apply aO|apply aQ|apply aK)<;>intro h<;>try simp only [h]))
   refine ⟨i + 1,?_,by omega,by omega⟩
   rw [hsn]
   simp only [if_true]
   exact (bF _ rfl ⟨⟨rfl,rfl⟩,⟨rfl,rfl⟩,⟨rfl,rfl⟩,⟨rfl,rfl⟩,⟨rfl,rfl⟩,trivial⟩)
 ·intro _ hd
  repeat' (first|(simp only [hd,List.take_length,↓wA,↓wC,wB,aY,aW,reduceEqDiff,reduceAdd,reduceSub,reduceIte,reduceCtorEq,Nat.reduceBEq,reduceLT])|((first|apply aO|apply aQ|apply aK)<;>intro h<;>try simp only [h]))
def qI (o:Off) (x:Cs):Bool:=decide (x.d<=o.day)
def aAH (b:Bool) (p:Cs->Bool) (o:Off):List D:=if cM o=true then [.sl b 1 (dl iD (gP p o.cs)),.bool true] else [.sl true 1 .nil,.bool false]
theorem aGZ (o:Off) (x:Cs):Fn prog 48 [x.s,.ptr o.s] (fun rs=>rs=[.bool (qI o x)]):=by
 refine bV (fn:=f48) (by exact func48) c48 r48 (n:=9) (by rfl) (rv:=[.tmp 3]) (by rfl) (by simp) ?_
 unfold m48
 try simp only [wQ]
 repeat' (first|(simp only [aV,Cs.s_noOwn,Cs.s_isV,gU,gT,gD,↓wA,↓wC,wB,aY,aW,reduceEqDiff,reduceAdd,reduceSub,reduceIte,reduceCtorEq,Nat.reduceBEq,reduceLT])|((first|apply aO|apply aQ|apply aK)<;>intro h<;>try simp only [h]))
 all_goals rfl
theorem aEX (o:Off) (ho:o.ok0):Fn prog 12 [o.s] (fun rs=>rs=aAH true (qI o) o):=by
 have hV:=jF o ho
 have h:=s9 (qI o) 48 (.cons (.ptr o.s) .nil) o ho rfl aRh (fun x _=>aGZ o x)
 unfold aAH
 cases hv:cM o with
 | false =>
  rw [hv] at hV
  refine bV (fn:=f12) (by exact func12) c12 r12 (n:=10) (by rfl) (rv:=[.tmp 2,.tmp 3]) (by rfl) (by simp) ?_
  unfold m12
  try simp only [wQ]
  repeat' (first|(simp only [Off.s_noOwn,Off.s_isV,↓b9,aV,↓wA,↓wC,wB,aY,aW,reduceEqDiff,reduceAdd,reduceSub,reduceIte,reduceCtorEq,Nat.reduceBEq,reduceLT])|(refine aZ hV (by simp [cA,cW,Off.s_unown]) rfl ?_)|((first|apply aO|apply aQ|apply aK)<;>intro h<;>try simp only [h]))
  all_goals (refine mX 1 ?_; simp)
 | true =>
  rw [hv] at hV
  refine fK (ps:=[[1,1,0]]) (fn:=f12) (by exact func12) c12 r12 (n:=10) (by rfl) (rv:=[.tmp 2,.tmp 3]) (by rfl) (by simp) ?_
  unfold m12
  try simp only [wQ]
  simp only [dP,eR]
  repeat' (first|(simp only [Off.s_noOwn,Off.s_isV,↓b9,aV,↓wA,↓wC,wB,aY,aW,reduceEqDiff,reduceAdd,reduceSub,reduceIte,reduceCtorEq,Nat.reduceBEq,reduceLT])|(refine aZ hV (by simp [cA,cW,Off.s_unown]) rfl ?_)|((first|apply aO|apply aQ|apply aK)<;>intro h<;>try simp only [h]))
  refine bR (gG 0 rfl) ?_
  repeat' (first|(simp only [Off.s_noOwn,Off.s_isV,↓b9,aV,Off.s_unown,↓wA,↓wC,wB,aY,aW,reduceEqDiff,reduceAdd,reduceSub,reduceIte,reduceCtorEq,Nat.reduceBEq,reduceLT])|(refine aZ h (by simp [cA,cW,Off.s_unown]) rfl ?_)|((first|apply aO|apply aQ|apply aK)<;>intro h<;>try simp only [h]))
  all_goals trace_state
def nK (o:Off) (x:Cs):Bool:=decide (x.d<=o.day) && decide (x.a=3) && decide (0 < (x.h.length:Int))
theorem aGt (o:Off) (x:Cs):Fn prog 49 [x.s,.ptr o.s] (fun rs=>rs=[.bool (nK o x)]):=by
 unfold nK
 cases h1:decide (x.d<=o.day)<;>cases h2:decide (x.a=3)
 all_goals
  refine bV (fn:=f49) (by exact func49) c49 r49 (n:=20) (by rfl) (rv:=[.tmp 3]) (by rfl) (by simp) ?_
  unfold m49
  try simp only [wQ]
  repeat' (first|(simp only [h1,h2,a7,bJ,aV,Cs.s_noOwn,Cs.s_isV,iA,iB,gU,gT,fB,fC,gD,↓wA,↓wC,wB,aY,aW,reduceEqDiff,reduceAdd,reduceSub,reduceIte,reduceCtorEq,Nat.reduceBEq,reduceLT])|((first|apply aO|apply aQ|apply aK)<;>intro h<;>try simp only [h]))
  all_goals simp
theorem aET (o:Off) (ho:o.ok0):Fn prog 13 [o.s] (fun rs=>rs=aAH true (nK o) o):=by
 have hV:=jF o ho
 have h:=s9 (nK o) 49 (.cons (.ptr o.s) .nil) o ho rfl aPX (fun x _=>aGt o x)
 unfold aAH
 cases hv:cM o with
 | false =>
  rw [hv] at hV
  refine bV (fn:=f13) (by exact func13) c13 r13 (n:=10) (by rfl) (rv:=[.tmp 2,.tmp 3]) (by rfl) (by simp) ?_
  unfold m13
  try simp only [wQ]
  repeat' (first|(simp only [Off.s_noOwn,Off.s_isV,↓b9,aV,↓wA,↓wC,wB,aY,aW,reduceEqDiff,reduceAdd,reduceSub,reduceIte,reduceCtorEq,Nat.reduceBEq,reduceLT])|(refine aZ hV (by simp [cA,cW,Off.s_unown]) rfl ?_)|((first|apply aO|apply aQ|apply aK)<;>intro h<;>try simp only [h]))
  all_goals (refine mX 1 ?_; simp)
 | true =>
  rw [hv] at hV
  refine fK (ps:=[[1,1,0]]) (fn:=f13) (by exact func13) c13 r13 (n:=10) (by rfl) (rv:=[.tmp 2,.tmp 3]) (by rfl) (by simp) ?_
  unfold m13
  try simp only [wQ]
  simp only [dP,eR]
  repeat' (first|(simp only [Off.s_noOwn,Off.s_isV,↓b9,aV,↓wA,↓wC,wB,aY,aW,reduceEqDiff,reduceAdd,reduceSub,reduceIte,reduceCtorEq,Nat.reduceBEq,reduceLT])|(refine aZ hV (by simp [cA,cW,Off.s_unown]) rfl ?_)|((first|apply aO|apply aQ|apply aK)<;>intro h<;>try simp only [h]))
  refine bR (gG 0 rfl) ?_
  repeat' (first|(simp only [Off.s_noOwn,Off.s_isV,↓b9,aV,Off.s_unown,↓wA,↓wC,wB,aY,aW,reduceEqDiff,reduceAdd,reduceSub,reduceIte,reduceCtorEq,Nat.reduceBEq,reduceLT])|(refine aZ h (by simp [cA,cW,Off.s_unown]) rfl ?_)|((first|apply aO|apply aQ|apply aK)<;>intro h<;>try simp only [h]))
  all_goals trace_state
def rN (n:Int) (x:Cs):Bool:=x.h.contains n
def aGW (n:Int) (o:Off):List D:=if cM o=true/\bX n 1 9=true then [.sl true 1 (dl iD (gP (rN n) o.cs)),.bool true] else [.sl true 1 .nil,.bool false]
theorem aFZ (n:Int):Fn prog 57 [.int .i64 n] (fun rs=>rs=[.bool (bX n 1 9)]):=by
 refine bV (fn:=f57) (by exact func57) c57 r57 (n:=5) (by rfl) (rv:=[.tmp 2]) (by rfl) (by simp) ?_
 unfold m57
 try simp only [wQ]
 repeat' (first|(simp only [↓wA,↓wC,wB,aY,aW,reduceEqDiff,reduceAdd,reduceSub,reduceIte,reduceCtorEq,Nat.reduceBEq,reduceLT])|(refine aZ (eL _ _ _) rfl rfl ?_)|(refine a6 (eL _ _ _) rfl rfl ?_)|((first|apply aO|apply aQ|apply aK)<;>intro h<;>try simp only [h]))
theorem aG6 (n:Int) (x:Cs) (hx:x.ok0):Fn prog 58 [x.s,.ptr (.int .i64 n)] (fun rs=>rs=[.bool (rN n x)]):=by
 have h:=uQ x.h n hx
 refine bV (fn:=f58) (by exact func58) c58 r58 (n:=8) (by rfl) (rv:=[.tmp 3]) (by rfl) (by simp) ?_
 unfold m58
 try simp only [wQ]
 repeat' (first|(simp only [bJ,aV,Cs.s_noOwn,Cs.s_isV,fB,fC,↓wA,↓wC,wB,aY,aW,reduceEqDiff,reduceAdd,reduceSub,reduceIte,reduceCtorEq,Nat.reduceBEq,reduceLT])|(refine aZ (h) rfl rfl ?_)|(refine a6 (h) rfl rfl ?_)|((first|apply aO|apply aQ|apply aK)<;>intro h<;>try simp only [h]))
 all_goals rfl
theorem aCR (o:Off) (n:Int) (ho:o.ok0):Fn prog 27 [o.s,.int .i64 n] (fun rs=>rs=aGW n o):=by
 have hV:=jF o ho
 have hN:=aFZ n
 have h:=s9 (rN n) 58 (.cons (.ptr (.int .i64 n)) .nil) o ho rfl aQ9 (fun x hx=>aG6 n x (ho.1.2 x hx))
 unfold aGW
 cases hv:cM o with
 | false =>
  rw [hv] at hV
  refine bV (fn:=f27) (by exact func27) c27 r27 (n:=17) (by rfl) (rv:=[.tmp 4,.tmp 5]) (by rfl) (by simp) ?_
  unfold m27
  try simp only [wQ]
  repeat' (first|(simp only [Off.s_noOwn,Off.s_isV,↓b9,aV,↓wA,↓wC,wB,aY,aW,reduceEqDiff,reduceAdd,reduceSub,reduceIte,reduceCtorEq,Nat.reduceBEq,reduceLT])|(refine aZ hV (by simp [cA,cW,Off.s_unown]) rfl ?_)|((first|apply aO|apply aQ|apply aK)<;>intro h<;>try simp only [h]))
  all_goals (refine mX 1 ?_; simp)
 | true =>
  rw [hv] at hV
  cases hn:bX n 1 9 with
  | false =>
   rw [hn] at hN
   refine bV (fn:=f27) (by exact func27) c27 r27 (n:=17) (by rfl) (rv:=[.tmp 4,.tmp 5]) (by rfl) (by simp) ?_
   unfold m27
   try simp only [wQ]
   repeat' (first|(simp only [Off.s_noOwn,Off.s_isV,↓b9,aV,↓wA,↓wC,wB,aY,aW,reduceEqDiff,reduceAdd,reduceSub,reduceIte,reduceCtorEq,Nat.reduceBEq,reduceLT])|(refine aZ (hN) rfl rfl ?_)|(refine a6 (hN) rfl rfl ?_)|(refine aZ hV (by simp [cA,cW,Off.s_unown]) rfl ?_)|((first|apply aO|apply aQ|apply aK)<;>intro h<;>try simp only [h]))
   all_goals (refine mX 1 ?_; simp)
  | true =>
   rw [hn] at hN
   refine fK (ps:=[[1,1,0]]) (fn:=f27) (by exact func27) c27 r27 (n:=17) (by rfl) (rv:=[.tmp 4,.tmp 5]) (by rfl) (by simp) ?_
   unfold m27
   try simp only [wQ]
   simp only [dP,eR]
   repeat' (first|(simp only [Off.s_noOwn,Off.s_isV,↓b9,aV,↓wA,↓wC,wB,aY,aW,reduceEqDiff,reduceAdd,reduceSub,reduceIte,reduceCtorEq,Nat.reduceBEq,reduceLT])|(refine aZ (hN) rfl rfl ?_)|(refine a6 (hN) rfl rfl ?_)|(refine aZ hV (by simp [cA,cW,Off.s_unown]) rfl ?_)|((first|apply aO|apply aQ|apply aK)<;>intro h<;>try simp only [h]))
   refine bR (gG 1 rfl) ?_
   repeat' (first|(simp only [Off.s_noOwn,Off.s_isV,↓b9,aV,Off.s_unown,D.unown,↓wA,↓wC,wB,aY,aW,reduceEqDiff,reduceAdd,reduceSub,reduceIte,reduceCtorEq,Nat.reduceBEq,reduceLT])|(refine aZ h (by simp [cA,cW,Off.s_unown]) rfl ?_)|((first|apply aO|apply aQ|apply aK)<;>intro h<;>try simp only [h]))
   all_goals simp
theorem aE0 (o:Off) (ho:o.ok0):Fn prog 24 [o.s] (fun rs=>rs=aAH true (qI o) o):=by
 have hlen:=ho.1.1
 have hV:=eW o ho
 unfold aAH
 cases hv:cM o with
 | false =>
  rw [hv] at hV
  refine bV (fn:=f24) (by exact func24) c24 r24 (n:=37) (by rfl) (rv:=[.tmp 2,.tmp 3]) (by rfl) (by simp) ?_
  unfold m24
  try simp only [wQ]
  repeat' (first|(simp only [Off.s_noOwn,Off.s_isV,↓b9,aV,↓wA,↓wC,wB,aY,aW,reduceEqDiff,reduceAdd,reduceSub,reduceIte,reduceCtorEq,Nat.reduceBEq,reduceLT])|(refine aZ hV (by simp [cA,cW,Off.s_unown]) rfl ?_)|((first|apply aO|apply aQ|apply aK)<;>intro h<;>try simp only [h]))
  all_goals simp
 | true =>
  rw [hv] at hV
  refine bV (fn:=f24) (by exact func24) c24 r24 (n:=37) (by rfl) (rv:=[.tmp 2,.tmp 3]) (by rfl) (by simp) ?_
  unfold m24
  try simp only [wQ]
  repeat' (first|(simp only [Off.s_noOwn,Off.s_isV,↓b9,aV,↓wA,↓wC,wB,aY,aW,reduceEqDiff,reduceAdd,reduceSub,reduceIte,reduceCtorEq,Nat.reduceBEq,reduceLT])|(refine aZ hV (by simp [cA,cW,Off.s_unown]) rfl ?_)|((first|apply aO|apply aQ|apply aK)<;>intro h<;>try simp only [h]))
  refine cP o.cs.length (fun i:Nat=>⟨[(1,.ptr 0 0 []),(4,.own 1),(5,.d (.int .i64 i))],[.box o.s,.val (.sl true 1 (dl iD (gP (qI o) (o.cs.take i))))]⟩) (fun _=>True) (bF _ rfl ⟨⟨rfl,rfl⟩,⟨rfl,rfl⟩,⟨rfl,rfl⟩,trivial⟩) trivial ?_ ?_
  ·intro i hlt _ hd h0
   obtain ⟨x,hr⟩:=cK hlt
   have hxo:=ho.1.2 x (List.mem_of_getElem? hr)
   have hsn:=qC (p:=qI o) hr
   have hvl:=mU (qI o) (o.cs.take i)
   rw [List.length_take,Nat.min_eq_left (by omega)] at hvl
   skip
   cases hw:qI o x with
   | false =>
    rw [hw] at hsn
    unfold qI at hw; have h1:=hw; have h2:=hw; have h3:=hw
    repeat' (first|(simp only [a7,hd,h0,bW,Int.toNat_natCast,hr,Option.map_some,aV,bB,sD,rQ,gZ,g7,↓gH,bJ,nJ,v8,rI,tL,eZ,eX,iA,iB,gU,gT,fB,fC,Cs.s_isV,Cs.s_size,Cs.s_noOwn,h1,h2,h3,↓wA,↓wC,wB,aY,aW,reduceEqDiff,reduceAdd,reduceSub,reduceIte,reduceCtorEq,Nat.reduceBEq,reduceLT])|(refine aZ (hV) rfl rfl ?_)|(refine a6 (hV) rfl rfl ?_)|(with_reducible refine bA ?_ ?_; focus (simp only [cV]; omega))|((first|apply aO|apply aQ|apply aK)<;>intro h<;>try simp only [h]))
    all_goals first
     |(refine ⟨i + 1,?_,by omega,by omega⟩
       rw [hsn]
       simp only [Bool.false_eq_true,if_false,List.append_nil]
       exact (bF _ rfl ⟨⟨rfl,rfl⟩,⟨rfl,rfl⟩,⟨rfl,rfl⟩,trivial⟩))
     |(exfalso; simp_all; done)
   | true =>
    rw [hw] at hsn
    unfold qI at hw; have h1:=hw; have h2:=hw; have h3:=hw
    repeat' (first|(simp only [a7,hd,h0,bW,Int.toNat_natCast,hr,Option.map_some,aV,bB,sD,rQ,gZ,g7,↓gH,bJ,nJ,v8,rI,tL,eZ,eX,iA,iB,gU,gT,fB,fC,Cs.s_isV,Cs.s_size,Cs.s_noOwn,eS,h1,h2,h3,↓wA,↓wC,wB,aY,aW,reduceEqDiff,reduceAdd,reduceSub,reduceIte,reduceCtorEq,Nat.reduceBEq,reduceLT])|(refine aZ (hV) rfl rfl ?_)|(refine a6 (hV) rfl rfl ?_)|(with_reducible refine bA ?_ ?_; focus (simp only [cV]; omega))|(with_reducible refine bK ?_ ?_; focus omega)|(with_reducible refine bK ?_ ?_; focus (simp; done))|((first|apply aO|apply aQ|apply aK)<;>intro h<;>try simp only [h]))
    all_goals first
     |(refine ⟨i + 1,?_,by omega,by omega⟩
       rw [hsn]
       simp only [if_true]
       exact (bF _ rfl ⟨⟨rfl,rfl⟩,⟨rfl,rfl⟩,⟨rfl,rfl⟩,trivial⟩))
     |(exfalso; simp_all; done)
  ·intro _ hd
   repeat' (first|(simp only [hd,a7,List.take_length,bB,gZ,g7,aV,↓wA,↓wC,wB,aY,aW,reduceEqDiff,reduceAdd,reduceSub,reduceIte,reduceCtorEq,Nat.reduceBEq,reduceLT])|((first|apply aO|apply aQ|apply aK)<;>intro h<;>try simp only [h]))
theorem yY (o:Off) (ho:o.ok0):Fn prog 22 [o.s] (fun rs=>rs=aAH true (nK o) o):=by
 have hlen:=ho.1.1
 have hV:=eW o ho
 unfold aAH
 cases hv:cM o with
 | false =>
  rw [hv] at hV
  refine bV (fn:=f22) (by exact func22) c22 r22 (n:=46) (by rfl) (rv:=[.tmp 2,.tmp 3]) (by rfl) (by simp) ?_
  unfold m22
  try simp only [wQ]
  repeat' (first|(simp only [Off.s_noOwn,Off.s_isV,↓b9,aV,↓wA,↓wC,wB,aY,aW,reduceEqDiff,reduceAdd,reduceSub,reduceIte,reduceCtorEq,Nat.reduceBEq,reduceLT])|(refine aZ hV (by simp [cA,cW,Off.s_unown]) rfl ?_)|((first|apply aO|apply aQ|apply aK)<;>intro h<;>try simp only [h]))
  all_goals simp
 | true =>
  rw [hv] at hV
  refine bV (fn:=f22) (by exact func22) c22 r22 (n:=46) (by rfl) (rv:=[.tmp 2,.tmp 3]) (by rfl) (by simp) ?_
  unfold m22
  try simp only [wQ]
  repeat' (first|(simp only [Off.s_noOwn,Off.s_isV,↓b9,aV,↓wA,↓wC,wB,aY,aW,reduceEqDiff,reduceAdd,reduceSub,reduceIte,reduceCtorEq,Nat.reduceBEq,reduceLT])|(refine aZ hV (by simp [cA,cW,Off.s_unown]) rfl ?_)|((first|apply aO|apply aQ|apply aK)<;>intro h<;>try simp only [h]))
  refine cP o.cs.length (fun i:Nat=>⟨[(1,.ptr 0 0 []),(4,.own 1),(5,.d (.int .i64 i))],[.box o.s,.val (.sl true 1 (dl iD (gP (nK o) (o.cs.take i))))]⟩) (fun _=>True) (bF _ rfl ⟨⟨rfl,rfl⟩,⟨rfl,rfl⟩,⟨rfl,rfl⟩,trivial⟩) trivial ?_ ?_
  ·intro i hlt _ hd h0
   obtain ⟨x,hr⟩:=cK hlt
   have hxo:=ho.1.2 x (List.mem_of_getElem? hr)
   have hsn:=qC (p:=nK o) hr
   have hvl:=mU (nK o) (o.cs.take i)
   rw [List.length_take,Nat.min_eq_left (by omega)] at hvl
   skip
   cases hw:nK o x with
   | false =>
    rw [hw] at hsn
    unfold nK at hw; cases h1:decide (x.d<=o.day)<;>cases h2:decide (x.a=3)<;>cases h3:decide (0 < (x.h.length:Int))<;>simp only [h1,h2,h3,Bool.true_and,Bool.false_and,Bool.and_true,Bool.and_false,Bool.true_eq_false,Bool.false_eq_true] at hw
    repeat' (first|(simp only [a7,hd,h0,bW,Int.toNat_natCast,hr,Option.map_some,aV,bB,sD,rQ,gZ,g7,↓gH,bJ,nJ,v8,rI,tL,eZ,eX,iA,iB,gU,gT,fB,fC,Cs.s_isV,Cs.s_size,Cs.s_noOwn,h1,h2,h3,↓wA,↓wC,wB,aY,aW,reduceEqDiff,reduceAdd,reduceSub,reduceIte,reduceCtorEq,Nat.reduceBEq,reduceLT])|(refine aZ (hV) rfl rfl ?_)|(refine a6 (hV) rfl rfl ?_)|(with_reducible refine bA ?_ ?_; focus (simp only [cV]; omega))|((first|apply aO|apply aQ|apply aK)<;>intro h<;>try simp only [h]))
    all_goals first
     |(refine ⟨i + 1,?_,by omega,by omega⟩
       rw [hsn]
       simp only [Bool.false_eq_true,if_false,List.append_nil]
       exact (bF _ rfl ⟨⟨rfl,rfl⟩,⟨rfl,rfl⟩,⟨rfl,rfl⟩,trivial⟩))
     |(exfalso; simp_all; done)
   | true =>
    rw [hw] at hsn
    unfold nK at hw; cases h1:decide (x.d<=o.day)<;>cases h2:decide (x.a=3)<;>cases h3:decide (0 < (x.h.length:Int))<;>simp only [h1,h2,h3,Bool.true_and,Bool.false_and,Bool.and_true,Bool.and_false,Bool.true_eq_false,Bool.false_eq_true] at hw
    repeat' (first|(simp only [a7,hd,h0,bW,Int.toNat_natCast,hr,Option.map_some,aV,bB,sD,rQ,gZ,g7,↓gH,bJ,nJ,v8,rI,tL,eZ,eX,iA,iB,gU,gT,fB,fC,Cs.s_isV,Cs.s_size,Cs.s_noOwn,eS,h1,h2,h3,↓wA,↓wC,wB,aY,aW,reduceEqDiff,reduceAdd,reduceSub,reduceIte,reduceCtorEq,Nat.reduceBEq,reduceLT])|(refine aZ (hV) rfl rfl ?_)|(refine a6 (hV) rfl rfl ?_)|(with_reducible refine bA ?_ ?_; focus (simp only [cV]; omega))|(with_reducible refine bK ?_ ?_; focus omega)|(with_reducible refine bK ?_ ?_; focus (simp; done))|((first|apply aO|apply aQ|apply aK)<;>intro h<;>try simp only [h]))
    all_goals first
     |(refine ⟨i + 1,?_,by omega,by omega⟩
       rw [hsn]
       simp only [if_true]
       exact (bF _ rfl ⟨⟨rfl,rfl⟩,⟨rfl,rfl⟩,⟨rfl,rfl⟩,trivial⟩))
     |(exfalso; simp_all; done)
  ·intro _ hd
   repeat' (first|(simp only [hd,a7,List.take_length,bB,gZ,g7,aV,↓wA,↓wC,wB,aY,aW,reduceEqDiff,reduceAdd,reduceSub,reduceIte,reduceCtorEq,Nat.reduceBEq,reduceLT])|((first|apply aO|apply aQ|apply aK)<;>intro h<;>try simp only [h]))
end Go.Pe.Tryz
set_option maxRecDepth 100000
set_option maxHeartbeats 4000000
set_option linter.all false
namespace Go.Pe.Tryz
open Nat (reduceEqDiff reduceAdd reduceSub reduceLT)
open Go.Proofs.Tryz
theorem aCr (o:Off) (n:Int) (ho:o.ok0):Fn prog 28 [o.s,.int .i64 n] (fun rs=>rs=aGW n o):=by
 have hlen:=ho.1.1
 have hV:=eW o ho
 have hN:=jT n 1 9
 unfold aGW
 cases hv:cM o with
 | false =>
  rw [hv] at hV
  refine bV (fn:=f28) (by exact func28) c28 r28 (n:=43) (by rfl) (rv:=[.tmp 4,.tmp 5]) (by rfl) (by simp) ?_
  unfold m28
  try simp only [wQ]
  repeat' (first|(simp only [Off.s_noOwn,Off.s_isV,↓b9,aV,↓wA,↓wC,wB,aY,aW,reduceEqDiff,reduceAdd,reduceSub,reduceIte,reduceCtorEq,Nat.reduceBEq,reduceLT])|(refine aZ hV (by simp [cA,cW,Off.s_unown]) rfl ?_)|((first|apply aO|apply aQ|apply aK)<;>intro h<;>try simp only [h]))
  all_goals simp
 | true =>
  rw [hv] at hV
  cases hn:bX n 1 9 with
  | false =>
   rw [hn] at hN
   refine bV (fn:=f28) (by exact func28) c28 r28 (n:=43) (by rfl) (rv:=[.tmp 4,.tmp 5]) (by rfl) (by simp) ?_
   unfold m28
   try simp only [wQ]
   repeat' (first|(simp only [Off.s_noOwn,Off.s_isV,↓b9,aV,↓wA,↓wC,wB,aY,aW,reduceEqDiff,reduceAdd,reduceSub,reduceIte,reduceCtorEq,Nat.reduceBEq,reduceLT])|(refine aZ (hN) rfl rfl ?_)|(refine a6 (hN) rfl rfl ?_)|(refine aZ hV (by simp [cA,cW,Off.s_unown]) rfl ?_)|((first|apply aO|apply aQ|apply aK)<;>intro h<;>try simp only [h]))
   all_goals simp
  | true =>
   rw [hn] at hN
   refine bV (fn:=f28) (by exact func28) c28 r28 (n:=43) (by rfl) (rv:=[.tmp 4,.tmp 5]) (by rfl) (by simp) ?_
   unfold m28
   try simp only [wQ]
   repeat' (first|(simp only [Off.s_noOwn,Off.s_isV,↓b9,aV,↓wA,↓wC,wB,aY,aW,reduceEqDiff,reduceAdd,reduceSub,reduceIte,reduceCtorEq,Nat.reduceBEq,reduceLT])|(refine aZ (hN) rfl rfl ?_)|(refine a6 (hN) rfl rfl ?_)|(refine aZ hV (by simp [cA,cW,Off.s_unown]) rfl ?_)|((first|apply aO|apply aQ|apply aK)<;>intro h<;>try simp only [h]))
   refine cP o.cs.length (fun i:Nat=>⟨[(1,.d (.int .i64 n)),(2,.ptr 0 0 []),(6,.own 1),(7,.d (.int .i64 i))],[.box o.s,.val (.sl true 1 (dl iD (gP (rN n) (o.cs.take i))))]⟩) (fun _=>True) (bF _ rfl ⟨⟨rfl,rfl⟩,⟨rfl,rfl⟩,⟨rfl,rfl⟩,⟨rfl,rfl⟩,trivial⟩) trivial ?_ ?_
   ·intro i hlt _ hd h0
    obtain ⟨x,hr⟩:=cK hlt
    have hxo:=ho.1.2 x (List.mem_of_getElem? hr)
    have hsn:=qC (p:=rN n) hr
    have hvl:=mU (rN n) (o.cs.take i)
    rw [List.length_take,Nat.min_eq_left (by omega)] at hvl
    have hHas:=aDl x.h n hxo
    cases hw:rN n x with
    | false =>
     rw [hw] at hsn
     unfold rN at hw; rw [hw] at hHas; have h1:=hw; have h2:=hw; have h3:=hw
     repeat' (first|(simp only [a7,hd,h0,bW,Int.toNat_natCast,hr,Option.map_some,aV,bB,sD,rQ,gZ,g7,↓gH,bJ,nJ,v8,rI,tL,eZ,eX,iA,iB,gU,gT,fB,fC,Cs.s_isV,Cs.s_size,Cs.s_noOwn,h1,h2,h3,↓wA,↓wC,wB,aY,aW,reduceEqDiff,reduceAdd,reduceSub,reduceIte,reduceCtorEq,Nat.reduceBEq,reduceLT])|(refine aZ (hHas) rfl rfl ?_)|(refine a6 (hHas) rfl rfl ?_)|(with_reducible refine bA ?_ ?_; focus (simp only [cV]; omega))|((first|apply aO|apply aQ|apply aK)<;>intro h<;>try simp only [h]))
     all_goals first
      |(refine ⟨i + 1,?_,by omega,by omega⟩
        rw [hsn]
        simp only [Bool.false_eq_true,if_false,List.append_nil]
        exact (bF _ rfl ⟨⟨rfl,rfl⟩,⟨rfl,rfl⟩,⟨rfl,rfl⟩,⟨rfl,rfl⟩,trivial⟩))
      |(exfalso; simp_all; done)
    | true =>
     rw [hw] at hsn
     unfold rN at hw; rw [hw] at hHas; have h1:=hw; have h2:=hw; have h3:=hw
     repeat' (first|(simp only [a7,hd,h0,bW,Int.toNat_natCast,hr,Option.map_some,aV,bB,sD,rQ,gZ,g7,↓gH,bJ,nJ,v8,rI,tL,eZ,eX,iA,iB,gU,gT,fB,fC,Cs.s_isV,Cs.s_size,Cs.s_noOwn,eS,h1,h2,h3,↓wA,↓wC,wB,aY,aW,reduceEqDiff,reduceAdd,reduceSub,reduceIte,reduceCtorEq,Nat.reduceBEq,reduceLT])|(refine aZ (hHas) rfl rfl ?_)|(refine a6 (hHas) rfl rfl ?_)|(with_reducible refine bA ?_ ?_; focus (simp only [cV]; omega))|(with_reducible refine bK ?_ ?_; focus omega)|(with_reducible refine bK ?_ ?_; focus (simp; done))|((first|apply aO|apply aQ|apply aK)<;>intro h<;>try simp only [h]))
     all_goals first
      |(refine ⟨i + 1,?_,by omega,by omega⟩
        rw [hsn]
        simp only [if_true]
        exact (bF _ rfl ⟨⟨rfl,rfl⟩,⟨rfl,rfl⟩,⟨rfl,rfl⟩,⟨rfl,rfl⟩,trivial⟩))
      |(exfalso; simp_all; done)
   ·intro _ hd
    repeat' (first|(simp only [hd,a7,List.take_length,bB,gZ,g7,aV,↓wA,↓wC,wB,aY,aW,reduceEqDiff,reduceAdd,reduceSub,reduceIte,reduceCtorEq,Nat.reduceBEq,reduceLT])|((first|apply aO|apply aQ|apply aK)<;>intro h<;>try simp only [h]))
   all_goals simp
end Go.Pe.Tryz
set_option maxRecDepth 100000
set_option maxHeartbeats 4000000
set_option linter.all false
namespace Go.Pe.Tryz
open Nat (reduceEqDiff reduceAdd reduceSub reduceLT)
open Go.Proofs.Tryz
end Go.Pe.Tryz
set_option maxRecDepth 100000
set_option maxHeartbeats 4000000
set_option linter.all false
namespace Go.Pe.Tryz
open Nat (reduceEqDiff reduceAdd reduceSub reduceLT)
open Go.Proofs.Tryz
end Go.Pe.Tryz
set_option maxRecDepth 100000
set_option maxHeartbeats 4000000
set_option linter.all false
namespace Go.Pe.Tryz
open Nat (reduceEqDiff reduceAdd reduceSub reduceLT)
open Go.Proofs.Tryz
structure App.wf (x:App):Prop where
 i:cV .i64 x.i
 q:cV .i64 x.q
 d:cV .i64 x.d
 s:cV .i64 x.s
 al:x.a.length<=maxLen
 hl:x.h.length<=maxLen
 a:∀ n∈x.a,cV .i64 n
 h:∀ n∈x.h,cV .i64 n
end Go.Pe.Tryz
set_option maxRecDepth 100000
set_option maxHeartbeats 4000000
set_option linter.all false
namespace Go.Pe.Tryz
open Nat (reduceEqDiff reduceAdd reduceSub reduceLT)
open Go.Proofs.Tryz
end Go.Pe.Tryz
set_option maxRecDepth 100000
set_option maxHeartbeats 4000000
set_option linter.all false
namespace Go.Pe.Tryz
open Nat (reduceEqDiff reduceAdd reduceSub reduceLT)
open Go.Proofs.Tryz
theorem jH {n a b:Int}:bX n a b=true↔a<=n/\n<=b:=by
 simp [bX]
end Go.Pe.Tryz
set_option maxRecDepth 100000
set_option maxHeartbeats 4000000
set_option linter.all false
namespace Go.Pe.Tryz
open Nat (reduceEqDiff reduceAdd reduceSub reduceLT)
open Go.Proofs.Tryz
theorem zI {n:Int}:iS [] (iD n)=some (iD n):=rfl
theorem zU {n:Int}:eV [] (iD n)=0:=rfl
theorem x7 {n:Int}:(iD n).size=1:=rfl
end Go.Pe.Tryz
set_option maxRecDepth 100000
set_option maxHeartbeats 4000000
set_option linter.all false
namespace Go.Pe.Tryz
open Nat (reduceEqDiff reduceAdd reduceSub reduceLT)
open Go.Proofs.Tryz
def App.p (x:App) (da dh:D):D:=.st (.cons (.int .i64 x.i) (.cons (.int .i64 x.q) (.cons (.int .i64 x.d) (.cons da (.cons dh (.cons (.int .i64 x.s) .nil))))))
def App.o (x:App):D:=x.p (.sl true 1 (dl iD x.a)) (.sl true 1 (dl iD x.h))
theorem aGz {α:Type} {xs:List α} {i:Nat} {r:α} (hr:xs[i]?=some r):xs.take (i + 1)=xs.take i ++ [r]:=by
 have hi:=bC hr
 rw [List.take_succ_eq_append_getElem hi]
 rw [List.getElem?_eq_getElem hi] at hr
 injection hr with hr
 rw [hr]
theorem dV:∀ (xs:D) (i:Nat) (y z:D),(xs.setN i y).setN i z=xs.setN i z:=by
 intro xs
 induction xs with
 | cons a xs ih1 ih2=>intro i y z; cases i with
  | zero=>rfl
  | succ i=>simp only [D.setN]; rw [ih2]
 | _=>intro i y z; cases i<;>rfl
end Go.Pe.Tryz
set_option maxRecDepth 100000
set_option maxHeartbeats 4000000
set_option linter.all false
namespace Go.Pe.Tryz
open Nat (reduceEqDiff reduceAdd reduceSub reduceLT)
open Go.Proofs.Tryz
theorem App.o_unown (x:App):x.o.unown=x.d':=by simp [App.o,App.p,App.d',D.unown,c9]
theorem App.o_isV (x:App):x.o.isV=true:=rfl
theorem App.o_size (x:App):x.o.size=6:=rfl
theorem aGU (v:List Int) (hlen:v.length<=1048576):Fn prog 69 [.sl false 1 (dl iD v)] (fun rs=>rs=[.sl true 1 (dl iD v)]):=by
 refine bV (fn:=f69) (by exact func69) c69 r69 (n:=8) (by rfl) (rv:=[.tmp 2]) (by rfl) (by simp) ?_
 unfold m69
 try simp only [wQ]
 simp only [↓wA,↓wC,wB,aY,aW,reduceEqDiff,reduceAdd,reduceSub,reduceIte,reduceCtorEq,Nat.reduceBEq,reduceLT]
 refine aFd (fun h=>?_) ?_
 ·rw [a7] at h
  have e:v=[]:=List.length_eq_zero_iff.1 h
  subst e
  simp only [↓wA,↓wC,wB,aY,aW,reduceEqDiff,reduceAdd,reduceSub,reduceIte,reduceCtorEq,Nat.reduceBEq,reduceLT]
  refine mX 1 ?_
  rfl
 ·simp only [a7,↓wA,↓wC,wB,aY,aW,reduceEqDiff,reduceAdd,reduceSub,reduceIte,reduceCtorEq,Nat.reduceBEq,reduceLT]
  refine bK ⟨by omega,by omega⟩ ?_
  simp only [↓wA,↓wC,wB,aY,aW,reduceEqDiff,reduceAdd,reduceSub,reduceIte,reduceCtorEq,Nat.reduceBEq,reduceLT]
end Go.Pe.Tryz
set_option maxRecDepth 100000
set_option maxHeartbeats 4000000
set_option linter.all false
namespace Go.Pe.Tryz
open Nat (reduceEqDiff reduceAdd reduceSub reduceLT)
open Go.Proofs.Tryz
end Go.Pe.Tryz
set_option maxRecDepth 100000
set_option maxHeartbeats 4000000
set_option linter.all false
namespace Go.Pe.Tryz
open Nat (reduceEqDiff reduceAdd reduceSub reduceLT)
open Go.Proofs.Tryz
end Go.Pe.Tryz
set_option maxRecDepth 100000
set_option maxHeartbeats 4000000
set_option linter.all false
namespace Go.Pe.Tryz
open Nat (reduceEqDiff reduceAdd reduceSub reduceLT)
open Go.Proofs.Tryz
end Go.Pe.Tryz
set_option maxRecDepth 100000
set_option maxHeartbeats 4000000
set_option linter.all false
namespace Go.Pe.Tryz
open Nat (reduceEqDiff reduceAdd reduceSub reduceLT)
open Go.Proofs.Tryz
theorem aDh (a:Int):Fn prog 161 [.int .i64 a] (fun rs=>rs=[.bool false]):=by
 refine bV (fn:=f161) (by exact func161) aRd aSh (n:=6) (by rfl) (rv:=[.tmp 2]) (by rfl) (by simp) ?_
 unfold aOm
 try simp only [wQ]
 simp only [↓wA,↓wC,wB,aY,aW,reduceEqDiff,reduceAdd,reduceSub,reduceIte,reduceCtorEq,Nat.reduceBEq,reduceLT]
theorem nF (a b:Int):Fn prog 143 [.int .i64 a,.int .i64 b] (fun rs=>rs=[.bool (decide (a < b))]):=by
 have h1:=aDh a
 have h2:=aDh b
 refine bV (fn:=f143) (by exact func143) aSz aQY (n:=17) (by rfl) (rv:=[.tmp 4]) (by rfl) (by simp) ?_
 unfold aON
 try simp only [wQ]
 repeat' (first|(simp only [↓wA,↓wC,wB,aY,aW,reduceEqDiff,reduceAdd,reduceSub,reduceIte,reduceCtorEq,Nat.reduceBEq,reduceLT])|(refine aZ (h1) rfl rfl ?_)|(refine a6 (h1) rfl rfl ?_)|(refine aZ (h2) rfl rfl ?_)|(refine a6 (h2) rfl rfl ?_)|((first|apply aO|apply aQ|apply aK)<;>intro h<;>try simp only [h]))
def aBH (n:Nat):Int:=[0,1,2,2,3,3,3,3].getD n 0
theorem aIo (n:Nat) (h:n<=7):Fn prog 147 [.int .u64 n] (fun rs=>rs=[.int .i64 (aBH n)]):=by
 have h1:decide ((4294967296:Int)<=(n:Int))=false:=decide_eq_false (by omega)
 have h2:decide ((65536:Int)<=(n:Int))=false:=decide_eq_false (by omega)
 have h3:decide ((256:Int)<=(n:Int))=false:=decide_eq_false (by omega)
 have h8:n=0\/n=1\/n=2\/n=3\/n=4\/n=5\/n=6\/n=7:=by omega
 refine bV (fn:=f147) (by exact func147) aRA aRv (n:=25) (by rfl) (rv:=[.tmp 2]) (by rfl) (by simp) ?_
 unfold aPw
 try simp only [wQ]
 repeat' (first|(simp only [aV,h1,h2,h3,↓wA,↓wC,wB,aY,aW,reduceEqDiff,reduceAdd,reduceSub,reduceIte,reduceCtorEq,Nat.reduceBEq,reduceLT])|(with_reducible refine bA ?_ ?_; focus (simp only [cV]; omega))|((first|apply aO|apply aQ|apply aK)<;>intro h<;>try simp only [h]))
 rcases h8 with rfl|rfl|rfl|rfl|rfl|rfl|rfl|rfl
 all_goals
  refine bK (by decide) ?_
  refine ⟨_,rfl,?_⟩
  refine bA (by simp only [cV]; decide) ?_
  simp only [↓wA,↓wC,wB,aY,aW,reduceEqDiff,reduceAdd,reduceSub,reduceIte,reduceCtorEq,Nat.reduceBEq,reduceLT]
  refine bA (by simp only [cV]; decide) ?_
  simp only [↓wA,↓wC,wB,aY,aW,reduceEqDiff,reduceAdd,reduceSub,reduceIte,reduceCtorEq,Nat.reduceBEq,reduceLT]
  rfl
def pos (p:Int):List Int->Nat
 | []=>0
 | a :: t=>if a < p then pos p t + 1 else 0
def jS (p:Int) (v:List Int):List Int:=v.take (pos p v) ++ p :: v.drop (pos p v)
theorem aB9 {p:Int}:∀ (v:List Int) (j:Nat),j<=v.length->(∀ m x,m < j->v[m]?=some x->x < p)->(∀ x,v[j]?=some x->¬ x < p)->pos p v=j
 | [],j,h,_,_=>by
  simp at h
  subst h
  rfl
 | a :: t,0,_,_,h3=>by
  rw [pos,if_neg (h3 a rfl)]
 | a :: t,j + 1,h,h2,h3=>by
  rw [pos,if_pos (h2 0 a (by omega) rfl),aB9 t j (by simpa using h) (fun m x hm hx=>h2 (m + 1) x (by omega) (by simpa using hx)) (fun x hx=>h3 x (by simpa using hx))]
def aBq (v:List Int):Prop:=∀ j a b,v[j]?=some a->v[j + 1]?=some b->a < b
theorem xZ {v:List Int} (h:aBq v):∀ (k m:Nat) (a b:Int),m < k->v[m]?=some a->v[k]?=some b->a < b
 | 0,m,a,b,hm,_,_=>by omega
 | k + 1,m,a,b,hm,ha,hb=>by
  by_cases e:m=k
  ·subst e; exact h m a b ha hb
  ·obtain ⟨c,hc⟩:=cK (show k < v.length by have:=bC hb; omega)
   have h1:=xZ h k m a c (by omega) ha hc
   have h2:=h k c b hc hb
   omega
def mv (p:Int) (v:List Int) (j:Nat):List Int:=v.take j ++ p :: v.drop j
theorem aNz {p:Int} {v:List Int} {j:Nat} (h:j<=v.length):(mv p v j).length=v.length + 1:=by simp [mv]; omega
theorem aP0 {p:Int} {v:List Int}:mv p v v.length=v ++ [p]:=by simp [mv]
theorem aOA {p:Int} {v:List Int} {j:Nat} (h:j<=v.length):(mv p v j)[j]?=some p:=by
 rw [mv,List.getElem?_append_right (by simp; omega),List.length_take,Nat.min_eq_left h,Nat.sub_self]; rfl
theorem aOj {p x:Int} {v:List Int} {k:Nat} (h:v[k]?=some x):(mv p v (k + 1))[k]?=some x:=by
 have hk:=bC h
 rw [mv,List.getElem?_append_left (by simp; omega),List.getElem?_take_of_lt (by omega)]
 exact h
theorem aJU {p x:Int} {v:List Int} {k:Nat} (h:v[k]?=some x):((mv p v (k + 1)).set (k + 1) x).set k p=mv p v k:=by
 have hk:=bC h
 rw [mv,aGz h,mv,aGF h,List.append_assoc]
 have hl:(v.take k).length=k:=by simp; omega
 rw [List.set_append_right _ _ (by omega),hl,show k + 1 - k=1 by omega,List.set_append_right _ _ (by omega),hl,Nat.sub_self]
 rfl
theorem aEE (p:Int) (v:List Int) (hr:aBq v) (hp:p ∉ v) (hlen:v.length<=6):wP prog 137 false (.sl true 1 (dl iD (v ++ [p]))) [.int .i64 0,.int .i64 (v.length + 1)] (fun x' rs=>x'=.sl true 1 (dl iD (jS p v))/\rs=[]):=by
 have hput:∀ j,j<=v.length->(∀ m x,m < j->v[m]?=some x->x < p)->(∀ x,v[j]?=some x->¬ x < p)->mv p v j=jS p v:=fun j h1 h2 h3=>by rw [jS,aB9 v j h1 h2 h3,mv]
 have hnp:∀ {m x:_},v[m]?=some x->x≠p:=fun {m x} h e=>hp (e ▸ List.mem_of_getElem? h)
 refine i6 (fn:=f137) (by exact func137) aRO aQa (n:=49) (by rfl) (rv:=[]) (by rfl) (by decide) (by simp) ?_
 unfold aOx
 try simp only [wQ]
 simp only [a7,↓wA,↓wC,wB,aY,aW,reduceEqDiff,reduceAdd,reduceSub,reduceIte,reduceCtorEq,Nat.reduceBEq,reduceLT]
 refine bA (by simp only [cV]; omega) ?_
 refine dZ (fun i:Nat=>⟨[(0,.own 0),(1,.d (.int .i64 0)),(2,.d (.int .i64 (v.length + 1))),(6,.d (.int .i64 i))],[.val (.sl true 1 (dl iD (if i<=v.length then v ++ [p] else jS p v)))]⟩) (fun i=>1<=i/\i<=v.length + 1) (fun i=>v.length + 1 - i) 1 ?_ ⟨by omega,by omega⟩ ?_
 ·have e:(if 1<=v.length then v ++ [p] else jS p v)=v ++ [p]:=by
   split
   ·rfl
   ·rename_i h
    have h0:v.length=0:=by omega
    have e:v=[]:=List.length_eq_zero_iff.1 h0
    subst e
    rfl
  rw [e]
  exact (bF _ rfl ⟨⟨rfl,rfl⟩,⟨rfl,rfl⟩,⟨rfl,rfl⟩,⟨rfl,rfl⟩,trivial⟩)
 rintro i ⟨hi1,hi2⟩
 by_cases hin:i=v.length + 1
 ·subst hin
  have hd:decide (((v.length + 1:Nat):Int) < (v.length:Int) + 1)=false:=decide_eq_false (by omega)
  rw [if_neg (by omega)]
  simp only [hd,↓wA,↓wC,wB,aY,aW,reduceEqDiff,reduceAdd,reduceSub,reduceIte,reduceCtorEq,Nat.reduceBEq,reduceLT]
 ·have hd:decide ((i:Int) < (v.length:Int) + 1)=true:=decide_eq_true (by omega)
  rw [if_pos (by omega)]
  by_cases hlt:i < v.length
  ·obtain ⟨k,rfl⟩:∃ k,i=k + 1:=⟨i - 1,by omega⟩
   obtain ⟨y,hy⟩:=cK hlt
   obtain ⟨x,hx⟩:=cK (show k < v.length by omega)
   have hxy:=hr k x y hx hy
   have h1:decide (0 < ((k + 1:Nat):Int))=true:=decide_eq_true (by omega)
   have h2:decide (y < x)=false:=decide_eq_false (by omega)
   have hn1:(((k + 1:Nat):Int) - 1).toNat=k:=by omega
   have h0:(0:Int)<=((k + 1:Nat):Int):=by omega
   have h0':(0:Int)<=((k + 1:Nat):Int) - 1:=by omega
   have hg1:(v ++ [p])[k + 1]?=some y:=by rw [List.getElem?_append_left hlt]; exact hy
   have hg2:(v ++ [p])[k]?=some x:=by rw [List.getElem?_append_left (by omega)]; exact hx
   simp only [hd,↓wA,↓wC,wB,aY,aW,reduceEqDiff,reduceAdd,reduceSub,reduceIte,reduceCtorEq,Nat.reduceBEq,reduceLT]
   refine dZ (fun _:Unit=>⟨[(0,.own 0),(1,.d (.int .i64 0)),(2,.d (.int .i64 (v.length + 1))),(6,.d (.int .i64 ((k + 1:Nat):Int))),(7,.d (.int .i64 ((k + 1:Nat):Int)))],[.val (.sl true 1 (dl iD (v ++ [p])))]⟩) (fun _=>True) (fun _=>0) () (bF _ rfl ⟨⟨rfl,rfl⟩,⟨rfl,rfl⟩,⟨rfl,rfl⟩,⟨rfl,rfl⟩,⟨rfl,rfl⟩,trivial⟩) trivial ?_
   rintro _ _
   repeat' (first|(simp only [a7,e9,h1,h2,hn1,h0,h0',bW,hg1,hg2,Option.map_some,aV,Int.toNat_natCast,zI,zU,x7,↓wA,↓wC,wB,aY,aW,reduceEqDiff,reduceAdd,reduceSub,reduceIte,reduceCtorEq,Nat.reduceBEq,reduceLT])|(refine aZ (nF y x) rfl rfl ?_)|(refine a6 (nF y x) rfl rfl ?_)|(refine a6 (nF _ _) rfl rfl ?_)|(with_reducible refine bA ?_ ?_; focus (simp only [cV]; omega))|((first|apply aO|apply aQ|apply aK)<;>intro h<;>try simp only [h]))
   refine ⟨k + 1 + 1,?_,⟨by omega,by omega⟩,by omega⟩
   rw [if_pos (by omega)]
   exact (bF _ rfl ⟨⟨rfl,rfl⟩,⟨rfl,rfl⟩,⟨rfl,rfl⟩,⟨rfl,rfl⟩,trivial⟩)
  ·have e:i=v.length:=by omega
   subst e
   simp only [hd,↓wA,↓wC,wB,aY,aW,reduceEqDiff,reduceAdd,reduceSub,reduceIte,reduceCtorEq,Nat.reduceBEq,reduceLT]
   refine dZ (fun j:Nat=>⟨[(0,.own 0),(1,.d (.int .i64 0)),(2,.d (.int .i64 (v.length + 1))),(6,.d (.int .i64 (v.length:Int))),(7,.d (.int .i64 j))],[.val (.sl true 1 (dl iD (mv p v j)))]⟩) (fun j=>j<=v.length/\∀ x,v[j]?=some x->¬ x < p) (fun j=>j) v.length ?_ ⟨Nat.le_refl _,fun x hx=>absurd (bC hx) (by omega)⟩ ?_
   ·rw [aP0]; exact (bF _ rfl ⟨⟨rfl,rfl⟩,⟨rfl,rfl⟩,⟨rfl,rfl⟩,⟨rfl,rfl⟩,⟨rfl,rfl⟩,trivial⟩)
   rintro j ⟨hj,hjx⟩
   cases j with
   | zero =>
    have hf:=hput 0 hj (fun m x hm _=>by omega) hjx
    have h1:decide (0 < ((0:Nat):Int))=false:=rfl
    repeat' (first|(simp only [h1,↓wA,↓wC,wB,aY,aW,reduceEqDiff,reduceAdd,reduceSub,reduceIte,reduceCtorEq,Nat.reduceBEq,reduceLT])|(with_reducible refine bA ?_ ?_; focus (simp only [cV]; omega))|((first|apply aO|apply aQ|apply aK)<;>intro h<;>try simp only [h]))
    refine ⟨v.length + 1,?_,⟨by omega,by omega⟩,by omega⟩
    rw [if_neg (by omega),<-hf]
    exact (bF _ rfl ⟨⟨rfl,rfl⟩,⟨rfl,rfl⟩,⟨rfl,rfl⟩,⟨rfl,rfl⟩,trivial⟩)
   | succ k =>
    obtain ⟨x,hx⟩:=cK (show k < v.length by omega)
    have hne:=hnp hx
    have h1:decide (0 < ((k + 1:Nat):Int))=true:=decide_eq_true (by omega)
    have hn1:(((k + 1:Nat):Int) - 1).toNat=k:=by omega
    have h0:(0:Int)<=((k + 1:Nat):Int):=by omega
    have h0':(0:Int)<=((k + 1:Nat):Int) - 1:=by omega
    have hg1:=aOA (p:=p) hj
    have hg2:=aOj (p:=p) hx
    have hml:=aNz (p:=p) hj
    have hs1:((dl iD (mv p v (k + 1))).setN (k + 1) (.int .i64 x))=dl iD ((mv p v (k + 1)).set (k + 1) x):=i8 (f:=iD) _ _ x
    have hs2:((dl iD ((mv p v (k + 1)).set (k + 1) x)).setN k (.int .i64 p))=dl iD (mv p v k):=(i8 (f:=iD) _ _ p).trans (by rw [aJU hx])
    have hg3:((mv p v (k + 1)).set (k + 1) x)[k]?=some x:=by rw [List.getElem?_set_ne (by omega)]; exact hg2
    cases hc:decide (p < x) with
    | false =>
     have hf:=hput (k + 1) hj (fun m z hm hz=>by
      have hc':=of_decide_eq_false hc
      by_cases e:m=k
      ·subst e
       rw [hx] at hz
       injection hz with hz
       omega
      ·have:=xZ hr k m z x (by omega) hz hx
       omega) hjx
     repeat' (first|(simp only [a7,e9,hml,h1,hc,hn1,h0,h0',bW,hg1,hg2,Option.map_some,aV,Int.toNat_natCast,zI,zU,x7,↓wA,↓wC,wB,aY,aW,reduceEqDiff,reduceAdd,reduceSub,reduceIte,reduceCtorEq,Nat.reduceBEq,reduceLT])|(refine a6 (nF _ _) rfl rfl ?_)|(with_reducible refine bA ?_ ?_; focus (simp only [cV]; omega))|((first|apply aO|apply aQ|apply aK)<;>intro h<;>try simp only [h]))
     refine ⟨v.length + 1,?_,⟨by omega,by omega⟩,by omega⟩
     rw [if_neg (by omega),<-hf]
     exact (bF _ rfl ⟨⟨rfl,rfl⟩,⟨rfl,rfl⟩,⟨rfl,rfl⟩,⟨rfl,rfl⟩,trivial⟩)
    | true =>
     repeat' (first|(simp only [a7,e9,hml,h1,hc,hn1,h0,h0',bW,hg1,hg2,hg3,hs1,hs2,oY,List.length_set,Option.map_some,aV,Int.toNat_natCast,zI,zU,x7,↓wA,↓wC,wB,aY,aW,reduceEqDiff,reduceAdd,reduceSub,reduceIte,reduceCtorEq,Nat.reduceBEq,reduceLT])|(refine a6 (nF _ _) rfl rfl ?_)|(refine cT ?_)|(with_reducible refine bA ?_ ?_; focus (simp only [cV]; omega))|((first|apply aO|apply aQ|apply aK)<;>intro h<;>try simp only [h]))
     rw [show ((k + 1:Nat):Int) - 1=(k:Int) by omega]
     refine ⟨k,(bF _ rfl ⟨⟨rfl,rfl⟩,⟨rfl,rfl⟩,⟨rfl,rfl⟩,⟨rfl,rfl⟩,⟨rfl,rfl⟩,trivial⟩),⟨by omega,fun z hz=>?_⟩,by omega⟩
     rw [hx] at hz
     injection hz with hz
     have:=of_decide_eq_true hc
     omega
theorem aFq (n:Nat) (h:n<=7):Fn prog 119 [.int .u64 n] (fun rs=>rs=[.int .i64 (aBH n)]):=by
 have h1:=aIo n h
 refine bV (fn:=f119) (by exact func119) aRk aRo (n:=8) (by rfl) (rv:=[.tmp 2]) (by rfl) (by simp) ?_
 unfold aO5
 try simp only [wQ]
 repeat' (first|(simp only [↓wA,↓wC,wB,aY,aW,reduceEqDiff,reduceAdd,reduceSub,reduceIte,reduceCtorEq,Nat.reduceBEq,reduceLT])|(refine aZ (h1) rfl rfl ?_)|(refine a6 (h1) rfl rfl ?_)|((first|apply aO|apply aQ|apply aK)<;>intro h<;>try simp only [h]))
theorem aNw (p:Int) (v:List Int) (m:Int) (hr:aBq v) (hp:p ∉ v) (hlen:v.length<=6):wP prog 118 false (.sl true 1 (dl iD (v ++ [p]))) [.int .i64 0,.int .i64 (v.length + 1),.int .i64 m] (fun x' rs=>x'=.sl true 1 (dl iD (jS p v))/\rs=[]):=by
 have hI:=aEE p v hr hp hlen
 have h12:decide ((v.length:Int) + 1 - 0<=12)=true:=decide_eq_true (by omega)
 refine i6 (fn:=f118) (by exact func118) aSl aQu (n:=134) (by rfl) (rv:=[]) (by rfl) (by decide) (by simp) ?_
 unfold aOs
 try simp only [wQ]
 simp only [↓wA,↓wC,wB,aY,aW,reduceEqDiff,reduceAdd,reduceSub,reduceIte,reduceCtorEq,Nat.reduceBEq,reduceLT]
 refine dZ (fun _:Unit=>⟨[(0,.own 0),(1,.d (.int .i64 0)),(2,.d (.int .i64 (v.length + 1))),(3,.d (.int .i64 m)),(8,.d (.bool true)),(9,.d (.bool true))],[.val (.sl true 1 (dl iD (v ++ [p])))]⟩) (fun _=>True) (fun _=>0) () (bF _ rfl ⟨⟨rfl,rfl⟩,⟨rfl,rfl⟩,⟨rfl,rfl⟩,⟨rfl,rfl⟩,⟨rfl,rfl⟩,⟨rfl,rfl⟩,trivial⟩) trivial ?_
 rintro _ _
 repeat' (first|(simp only [h12,↓wA,↓wC,wB,aY,aW,reduceEqDiff,reduceAdd,reduceSub,reduceIte,reduceCtorEq,Nat.reduceBEq,reduceLT])|(refine rX hI rfl rfl rfl ?_)|(with_reducible refine bA ?_ ?_; focus (simp only [cV]; omega))|((first|apply aO|apply aQ|apply aK)<;>intro h<;>try simp only [h]))
theorem aLo (p:Int) (v:List Int) (hr:aBq v) (hp:p ∉ v) (hlen:v.length<=6):wP prog 103 false (.sl true 1 (dl iD (v ++ [p]))) [] (fun x' rs=>x'=.sl true 1 (dl iD (jS p v))/\rs=[]):=by
 have hl:((v.length + 1:Nat):Int)=(v.length:Int) + 1:=by omega
 have hl2:(v ++ [p]).length=v.length + 1:=by simp
 have hB:Fn prog 119 [.int .u64 ((v.length:Int) + 1)] (fun rs=>rs=[.int .i64 (aBH (v.length + 1))]):=aFq (v.length + 1) (by omega)
 have hP:=aNw p v (aBH (v.length + 1)) hr hp hlen
 have hU:cV .u64 ((v.length:Int) + 1):=by
  have h8:v.length=0\/v.length=1\/v.length=2\/v.length=3\/v.length=4\/v.length=5\/v.length=6:=by omega
  rcases h8 with h|h|h|h|h|h|h
  all_goals
   rw [h]
   show IntKind.wrap .u64 _=_
   decide
 refine i6 (fn:=f103) (by exact func103) aRf aQz (n:=11) (by rfl) (rv:=[]) (by rfl) (by decide) (by simp) ?_
 unfold aOV
 try simp only [wQ]
 repeat' (first|(simp only [a7,hl2,hl,↓wA,↓wC,wB,aY,aW,reduceEqDiff,reduceAdd,reduceSub,reduceIte,reduceCtorEq,Nat.reduceBEq,reduceLT])|(refine aZ (hB) rfl rfl ?_)|(refine a6 (hB) rfl rfl ?_)|(refine bA hU ?_)|(refine rX hP rfl rfl rfl ?_)|(with_reducible refine bA ?_ ?_; focus (simp only [cV]; omega))|((first|apply aO|apply aQ|apply aK)<;>intro h<;>try simp only [h]))
end Go.Pe.Tryz
