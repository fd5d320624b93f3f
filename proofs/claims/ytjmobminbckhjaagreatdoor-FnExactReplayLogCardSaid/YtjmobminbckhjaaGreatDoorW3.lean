/- The program's round, walked to its end: what is asked of it (roundOK) is so; slices.Delete at cases and at numbers: walked over raw memory; its contract; slices.Insert at cases: walked over raw memory; its contract; slices.Insert at cases where there is room; its contract; Valid lists of appeals, walked; Valid lists of appeals as the reference has them, walked; The law of AreAppeals, joined; Greatest common divisors and shares in lowest terms, walked; The place of an appeal; how many days it has left, walked; Marks on lists of appeals, walked; Marks on appeals, read again; copies of one's own, walked; Sorting of a few numbers, walked; Steps of an office, as plain lists: the program's road and the reference's agree; Steps of an office: copies, walked; Steps of an office: a hold is released; walked; Steps of an office: a case is dealt with; walked -/
import Derived.Test.YtjmobminbckhjaaGreatDoorW2
import Derived.Maps.AppendAt
import Derived.Shelf.RegionOpenPlain
import Derived.WalkKit
import Derived.Deep.RegionLaw
import Derived.Lib.Walk
import Derived.Lib.SliceRun
import Derived.Test.YtjmobminbckhjaaGreatDoorPeD
import Derived.Test.YtjmobminbckhjaaGreatDoorMc1
import Derived.Test.YtjmobminbckhjaaGreatDoorMc2
import Derived.Test.YtjmobminbckhjaaGreatDoorMc3
import Derived.Test.YtjmobminbckhjaaGreatDoorMc4
import Derived.Test.YtjmobminbckhjaaGreatDoorMc5
import Derived.Test.YtjmobminbckhjaaGreatDoorMc6
import Derived.Test.YtjmobminbckhjaaGreatDoorMc7
import Derived.Test.YtjmobminbckhjaaGreatDoorMc8
import Derived.Lib.AppendZerosOnto
import Derived.Lib.Overlaps
import Derived.Laws.IdiomCopy
import Derived.Laws.NewBlocks
import Derived.OwnWalk
import Derived.Test.YtjmobminbckhjaaGreatDoorW1
set_option maxRecDepth 100000
set_option maxHeartbeats 4000000
set_option linter.all false
open Array renaming length_toList->aJ, size_append->aY, toList_append->a6
open Bool renaming and_eq_true->aG, false_eq_true->bH
open Int renaming toNat_natCast->aI
open List renaming length_take->aA, length_append->aB, length_drop->aF, size_toArray->aH, mem_of_getElem?->aK, nodup_cons->aM, mem_of_mem_drop->aN, length_eq_zero_iff->aO, append_assoc->aP, mem_cons->aS, take_left'->aU, mem_of_mem_take->aV, eq_nil_of_length_eq_zero->aX, set_append_right->aZ, map_map->a7, take_left->bA, take_length->bB, take_append_drop->bC, mem_append->bD, append_nil->bE, length_map->bF, take_take->bG, nodup_append->bJ, length_cons->bK, drop_length->bL, map_append->bQ, contains_iff_mem->bT, map_take->bU, map_drop->bV, filter_eq_self->bW, set_cons_zero->bX, cons_append->bY, all_eq_true->bZ, length_nil->b6, nil_append->b7, drop_left->b8, map_cons->b9, mem_map->cB, map_nil->cC
open Nat renaming min_eq_left->aC, reduceBEq->aD, mul_le_mul_right->aE, le_refl->aL, le_trans->aR, min->aT, add_mul->aW, sub_self->a8, mul_one->bR, zero_mul->cA, reduceEqDiff->cD, reduceAdd->cF, reduceSub->aYq, reduceLT->aYr
open Option renaming map_some->aQ, bind_some->bM, getD_some->bP
namespace Go.Pe.Tryz
open Go Go.RowKit Go.Shelf Go.Proofs.ChkTryz
attribute [local go_sem] Oper.semAt_some
theorem aBU {w:World} {M:Nat->Prop}:∀ v:List Int,(dl iD v).rep w M (v.map (Value.int .i64)) []
 | []=>⟨rfl,rfl⟩
 | n :: v=>⟨[.int .i64 n],_,[],[],rfl,rfl,⟨rfl,rfl⟩,aBU v⟩
theorem r7 {w:World} {M:Nat->Prop}:∀ (v:List Int) (cs:List Value) (fp:List Nat),(dl iD v).rep w M cs fp->cs=v.map (Value.int .i64)/\fp=[]
 | [],cs,fp,h=>h
 | n :: v,cs,fp,h=>by
  obtain ⟨c1,c2,f1,f2,rfl,rfl,⟨rfl,rfl⟩,h2⟩:=h
  obtain ⟨rfl,rfl⟩:=r7 v c2 f2 h2
  exact ⟨rfl,rfl⟩
theorem aBl:∀ v:List Int,(dl iD v).isL 1
 | []=>trivial
 | n :: v=>⟨rfl,aBl v⟩
def SlI (W:World) (u:Value) (out:List Int) (fp:List Nat):Prop :=
 (∃ a,u=.slice a 0 0/\out=[]/\fp=[])\/∃ g c,u=.slice (some ⟨g,0,none⟩) out.length c/\out.length<=c/\gN W g c (out.map (Value.int .i64))/\fp=[g]
theorem SlI.rep {W:World} {M:Nat->Prop} {u:Value} {out:List Int} {fp:List Nat} (h:SlI W u out fp):(D.sl true 1 (dl iD out)).rep W M [u] fp:=by
 rcases h with ⟨a,rfl,rfl,rfl⟩|⟨g,c,rfl,hc,hr,rfl⟩
 ·exact ⟨trivial,a,0,[],[],rfl,aL _,⟨rfl,rfl⟩,by simp⟩
 ·refine ⟨aBl out,_,c,_,[],by rw [cP],by rw [cP]; exact hc,aBU out,?_⟩
  simp only [if_true]
  exact .inr ⟨g,rfl,⟨by rw [bR]; exact hr,fun h=>absurd rfl h⟩,rfl⟩
theorem aYp {W:World} {M:Nat->Prop} {cs:List Value} {out:List Int} {fp:List Nat} (h:(D.sl true 1 (dl iD out)).rep W M cs fp):∃ u,cs=[u]/\SlI W u out fp:=by
 obtain ⟨_,a,c,ds,fps,rfl,hc,h3,h4⟩:=h
 obtain ⟨rfl,rfl⟩:=r7 _ _ _ h3
 rw [cP] at hc ⊢
 refine ⟨_,rfl,?_⟩
 simp only [if_true] at h4
 rcases h4 with ⟨rfl,_,rfl⟩|⟨g,rfl,hr,rfl⟩
 ·have e:out=[]:=aO.1 (by omega)
  subst e
  exact .inl ⟨a,rfl,rfl,rfl⟩
 ·rw [bR] at hr
  have hr:=hr.1
  exact .inr ⟨g,c,rfl,hc,hr,rfl⟩
theorem aBI {W:World} {g n:Nat} {ds:List Value} (h:gN W g n ds):∃ o:Obj,W.heap[g]?=some o/\o.isCells=true:=by
 obtain ⟨cur,E,⟨fz,h1,_⟩,_⟩:=h
 exact ⟨_,h1,rfl⟩
theorem SlI.row {W:World} {u:Value} {out:List Int} {fp:List Nat} (h:SlI W u out fp):∀ b∈fp,∃ o:Obj,W.heap[b]?=some o/\o.isCells=true:=by
 rcases h with ⟨a,rfl,rfl,rfl⟩|⟨g,c,rfl,hc,hr,rfl⟩
 ·intro b hb; cases hb
 ·intro b hb; rw [List.mem_singleton.1 hb]; exact aBI hr
theorem SlI.keep {W W':World} {u:Value} {out:List Int} {fp:List Nat} (h:SlI W u out fp) (hk:∀ b∈fp,W'.heap[b]?=W.heap[b]?):SlI W' u out fp:=by
 rcases h with ⟨a,rfl,rfl,rfl⟩|⟨g,c,rfl,hc,hr,rfl⟩
 ·exact .inl ⟨a,rfl,rfl,rfl⟩
 ·exact .inr ⟨g,c,rfl,hc,hr.frame (hk g (by simp)),rfl⟩
def aAL (n0 B:Nat) (W:World) (out:List Int):Prop:=∃ u fp,gN W B 1 [u]/\SlI W u out fp/\B ∉ fp/\∀ b∈fp,n0<=b
theorem aAL.kept {n0 B:Nat} {W W':World} {out:List Int} {row:Option Nat} (h:aAL n0 B W out) (hg:W.grownBy W' row) (hr:∀ r,row=some r->∃ o:Obj,W.heap[r]?=some o/\o.isCells=false):aAL n0 B W' out:=by
 obtain ⟨u,fp,h1,h2,h3,h4⟩:=h
 have key:∀ b:Nat,(∃ o:Obj,W.heap[b]?=some o/\o.isCells=true)->W'.heap[b]?=W.heap[b]?:=by
  rintro b ⟨o,hb,ho⟩
  refine hg.block b (Array.getElem?_eq_some_iff.1 hb).1 fun e=>?_
  obtain ⟨o',hb',ho'⟩:=hr b e.symm
  rw [hb] at hb'
  injection hb' with hb'
  rw [<- hb',ho] at ho'
  cases ho'
 exact ⟨u,fp,h1.frame (key B (aBI h1)),h2.keep fun b hb=>key b (h2.row b hb),h3,h4⟩
theorem aAL.own (n0 B:Nat) {β:Type} (f:β->List Int):Own (fun s W=>aAL n0 B W (f s)):=fun s X Y row h hg hr=>aAL.kept h hg hr
theorem aE1 (oc:OC):eW [oc]=oc.fp:=by simp [eW]
theorem aLU (w W:World) (M:Nat->Prop) (hgl:GOK prog w M) (n0 B b off:Nat) (out pr:List Int) (g:Int) (tm:Array Value) (htm:tm.size=(Go.Proofs.Tryz.f195).ntmps)
  (h3:tm.getD 3 Go.undef=.pointer (some ⟨B,0,none⟩)) (h4:tm.getD 4 Go.undef=.slice (some ⟨b,off,none⟩) pr.length pr.length) (hprl:0 < pr.length)
  (hc:∀ j u,pr[j]?=some u->W.cell? ⟨b,off + j,none⟩=some (.int .i64 u)) (hbw:b < w.heap.size) (hBw:w.heap.size<=B) (hn0:w.heap.size<=n0) (hn1:n0<=W.heap.size) (hB:aAL n0 B W out) (hbel:Below w.heap.size w W)
  (hg:(∃ x y,pr=[x,y]/\gA x/\gA y/\g=sX x y)\/pr=[g]) (ho:out.length<=1000000) (r n:Nat) :
  ∃ bd,(Go.Proofs.Tryz.f195).body.bind lG=some bd/\bd.wpIn (Fence.wide.inRound r) n Go.Proofs.Tryz.prog (fun e a' W'=>e=.normal/\aAL n0 B W' (out ++ [g])/\W'.os=W.os/\W'.tape=W.tape/\W'.output=W.output/\W.heap.size<=W'.heap.size /\
   (∀ k,k < W.heap.size->k < n0->k≠B->W'.heap[k]?=W.heap[k]?)/\(∀ (k:Nat) (o:Obj),W.heap[k]?=some o->o.isCells=false->W'.heap[k]?=some o)) { tmps:=tm,defers:=[] } W:=by
 obtain ⟨bd,hbd,H⟩:=aKF out pr g hg ho
 refine ⟨bd,hbd,?_⟩
 obtain ⟨u,fp,q1,q2,q3,q4⟩:=hB
 have hfpl:∀ k∈B :: fp,k < W.heap.size:=fun k hk=>by
  rcases aS.1 hk with rfl|hk
  ·exact q1.lt
  ·obtain ⟨o,h,_⟩:=q2.row k hk
   exact (Array.getElem?_eq_some_iff.1 h).1
 have hnd:(B :: fp).Nodup:=by
  rcases q2 with ⟨_,_,_,rfl⟩|⟨_,_,_,_,_,rfl⟩
  ·simp
  ·exact aM.2 ⟨q3,by simp⟩
 have hge:∀ k∈B :: fp,w.heap.size<=k:=fun k hk=>by
  rcases aS.1 hk with rfl|hk
  ·exact hBw
  ·have:=q4 k hk; omega
 let c:Ctx:={ G:=prog,n:=(Go.Proofs.Tryz.f195).ntmps,w0:=W,M0:=fun _=>False,g0:=B :: fp,lo:=8,fx:=fun t=>tm.getD t Go.undef }
 let oc:OC:={ v:=Go.undef,blk:=B,fp:=B :: fp }
 have hMs:∀ k,Ms c [oc] k↔k∈B :: fp:=fun k=>by simp [Ms,eW,c,oc]
 have hrel:Rel c ⟨[(3,.ptr 0 0 []),(4,.d (.sl false 1 (dl iD pr)))],[.box (.sl true 1 (dl iD out))]⟩ [oc] { tmps:=tm,defers:=[] } W:=by
  refine ⟨htm,rfl,fun t=>?_,?_,fun t _=>rfl⟩
  ·simp only [look]
   by_cases e3:3=t
   ·subst e3
    simp only [if_true]
    exact ⟨oc,rfl,h3⟩
   ·simp only [e3,if_false]
    by_cases e4:4=t
    ·subst e4
     simp only [if_true]
     refine ⟨[.slice (some ⟨b,off,none⟩) pr.length pr.length],⟨aBl pr,_,pr.length,_,[],by rw [cP],by rw [cP]; exact aL _,aBU pr,?_⟩,h4⟩
     simp only [bH,if_false]
     refine ⟨trivial,trivial,.inr ⟨_,rfl,.inr ⟨?_,?_,?_⟩⟩⟩
     ·exact Nat.lt_of_lt_of_le hbw hbel.size
     ·intro h
      have:=hge b ((hMs b).1 h)
      omega
     ·intro j x hx
      rw [Addr.add_lit]
      rw [List.getElem?_map] at hx
      obtain ⟨y,hy,rfl⟩:=Option.map_eq_some_iff.1 hx
      exact hc j y hy
    ·simp only [e4,if_false]
     trivial
  ·refine ⟨rfl,?_,?_,?_,?_,?_,?_,rfl,rfl,rfl,aL _,fun _ _ _=>rfl,fun k h=>h.elim,?_⟩
   ·intro k ob oc' h1 h2
    cases k with
    | succ k=>simp at h1
    | zero =>
     simp only [List.getElem?_cons_zero,Option.some.injEq] at h1 h2
     subst h1 h2
     exact ⟨[u],fp,q1,q2.rep,rfl⟩
   ·intro q k v h
    cases q<;>simp at h
   ·rw [aE1]; exact hnd
   ·rw [aE1]; exact hfpl
   ·intro k _ h; exact h
   ·intro k hk; rw [aE1] at hk; exact .inr hk
   ·obtain ⟨w1,f1,f2,f3⟩:=hgl
    refine ⟨w1,f1,aR f2 hbel.size,fun k hk=>⟨fun h=>?_,?_⟩⟩
    ·have:=hge k ((hMs k).1 h); omega
    ·rw [hbel.block k (by omega)]; exact (f3 k hk).2
 refine wpIn_mono (H c rfl rfl [oc] _ W hrel r n) ?_
 rintro e a' W' ⟨s',C',⟨rfl,hl3,x,hx⟩,hr'⟩
 refine ⟨rfl,?_,hr'.wd.os,hr'.wd.tape,hr'.wd.output,hr'.wd.size,?_,?_⟩
 ·have hv:=hr'.env 3
  rw [hl3] at hv
  obtain ⟨oc',g1,g2⟩:=hv
  have hfx:=hr'.fix 3 (show 3 < 8 by decide)
  rw [hfx] at g2
  have e:=h3.symm.trans g2
  simp only [Value.pointer.injEq,Option.some.injEq,Addr.mk.injEq,and_true] at e
  obtain ⟨cs,fps,k1,k2,k3⟩:=hr'.wd.obs 0 _ oc' (by rw [hx]; rfl) g1
  obtain ⟨u',rfl,k4⟩:=aYp k2
  rw [<- e] at k1 k3
  have hmem:∀ k∈fps,k∈eW C':=fun k hk=>c7.2 ⟨0,oc',g1,by rw [k3]; exact List.mem_cons_of_mem _ hk⟩
  have hnd':=(dO.1 hr'.wd.nodup).1 0 oc' g1
  rw [k3] at hnd'
  refine ⟨u',fps,k1,k4,(aM.1 hnd').1,fun k hk=>?_⟩
  rcases hr'.wd.mine k (hmem k hk) with h|h
  ·exact aR hn1 h
  ·rcases aS.1 h with h|h
   ·rw [h] at hk; exact absurd hk (aM.1 hnd').1
   ·exact q4 k h
 ·intro k hk hkn hkB
  refine hr'.wd.kept k hk fun h=>?_
  rcases aS.1 h with h|h
  ·exact hkB h
  ·have:=q4 k h; omega
 ·intro k o hk ho
  rw [<- hk]
  refine hr'.wd.kept k (Array.getElem?_eq_some_iff.1 hk).1 fun h=>?_
  have:∃ o:Obj,W.heap[k]?=some o/\o.isCells=true:=by
   rcases aS.1 h with h|h
   ·rw [h]; exact aBI q1
   ·exact q2.row k h
  obtain ⟨o',h1,h2⟩:=this
  rw [hk] at h1
  injection h1 with h1
  rw [h1,h2] at ho
  cases ho
def gR (v:List Int) (k:Nat):Int:=match v[2 * k]?,v[2 * k + 1]? with
 | some a,some b=>sX a b
 | some a,none=>a
 | _,_=>0
theorem aPi (v:List Int) (a b:Int) (k:Nat):gR (a :: b :: v) (k + 1)=gR v k:=by
 unfold gR
 rw [show 2 * (k + 1)=2 * k + 1 + 1 by omega,List.getElem?_cons_succ,List.getElem?_cons_succ,List.getElem?_cons_succ,List.getElem?_cons_succ]
theorem aEf:∀ v:List Int,(List.range ((v.length + 1) / 2)).map (gR v)=fW v
 | []=>rfl
 | [a]=>by simp [gR,fW]
 | a :: b :: v=>by
  have ih:=aEf v
  have e:((a :: b :: v).length + 1) / 2=(v.length + 1) / 2 + 1:=by simp only [bK]; omega
  rw [e,List.range_succ_eq_map,b9,a7]
  have e2:(gR (a :: b :: v) ∘ Nat.succ)=gR v:=by
   funext k
   exact aPi v a b k
  rw [e2,ih]
  rfl
theorem aUj (v:List Int) (hv:∀ n∈v,gA n) (k:Nat) (hk:2 * k < v.length):∃ pr:List Int,pr.length=min 2 (v.length - 2 * k)/\(∀ j u,pr[j]?=some u->v[2 * k + j]?=some u)/\((∃ x y,pr=[x,y]/\gA x/\gA y/\gR v k=sX x y)\/pr=[gR v k]):=by
 obtain ⟨a,ha⟩:=dW hk
 by_cases h2:2 * k + 1 < v.length
 ·obtain ⟨b,hb⟩:=dW h2
  refine ⟨[a,b],by simp; omega,fun j u hj=>?_,.inl ⟨a,b,rfl,hv a (aK ha),hv b (aK hb),by unfold gR; rw [ha,hb]⟩⟩
  match j,hj with
  | 0,hj=>simp at hj; rw [<- hj]; exact ha
  | 1,hj=>simp at hj; rw [<- hj]; exact hb
  | j + 2,hj=>simp at hj
 ·have hb:v[2 * k + 1]?=none:=List.getElem?_eq_none (by omega)
  have hg:gR v k=a:=by unfold gR; rw [ha,hb]
  refine ⟨[a],by simp; omega,fun j u hj=>?_,.inr (by rw [hg])⟩
  match j,hj with
  | 0,hj=>simp at hj; rw [<- hj]; exact ha
  | j + 1,hj=>simp at hj
def tE {len:Nat} (v:List Int) (pre:List (Ix len)):List Int:=pre.map fun x=>gR v x.1
theorem aKD {W:World} {B:Nat} {t:TypeId} {u:Value} (h:Boxed W B t u):gN W B 1 [u]:=⟨#[u],t,⟨(0,0),h,.inl (aL _)⟩,rfl,rfl⟩
theorem aNp {W:World} {B:Nat} {u:Value} (h:gN W B 1 [u]):W.cell? ⟨B,0,none⟩=some u:=by
 obtain ⟨cur,E,h1,h2,h3⟩:=h
 rw [h1.cell 0]
 have:cur.toList[0]?=some u:=by
  have e:=congrArg (fun l:List Value=>l[0]?) h3
  simp only [List.length_singleton,List.getElem?_cons_zero,List.getElem?_take] at e
  simpa using e
 simpa using this
set_option maxRecDepth 100000 in
set_option maxHeartbeats 4000000 in
theorem aKX (v:List Int) (hv:∀ n∈v,gA n) (hl:v.length<=1000) (w:World) (M:Nat->Prop) (hgl:GOK prog w M) (a:Option Addr) (cap b off:Nat)
  (ha:v.length=0\/(a=some ⟨b,off,none⟩/\v.length<=cap/\b < w.heap.size/\∀ j u,v[j]?=some u->w.cell? ⟨b,off + j,none⟩=some (.int .i64 u))) :
  Calls Go.Proofs.Tryz.prog 195 #[.slice a v.length cap] w fun e W'=>∃ u fp,e=.returned u/\SlI W' u (fW v) fp/\(∀ k∈fp,w.heap.size<=k)/\kN w W':=by
 refine (callsIn_wide (n:=4)).1 ?_
 refine callsIn_of_wp_marks Go.Proofs.Tryz.func195 rfl trivial ?_ rfl
 have hnt:Go.Proofs.Tryz.f195.ntmps=28:=rfl
 simp only [hnt,aH,bK,b6,cF,aYq,Array.replicate_succ,Array.replicate_zero,List.push_toArray,List.append_toArray,b7,bY]
 gi_wp2_with (refine ⟨trivial,?_⟩; gi_at_call 220; refine (aLm Fence.wide (4 - 1) trivial rfl _ _ _ _).mono ?_; rintro e w' ⟨rfl,rfl⟩)
 obtain ⟨W0,hW0⟩:∃ W0,W0=((w.alloc (.cells #[.slice none 0 0] 84)).alloc (.cells #[.slice a v.length cap] 84)).alloc (.cells #[.int .i64 2] 3):=⟨_,rfl⟩
 have hsz:W0.heap.size=w.heap.size + 3:=by rw [hW0]; simp
 have hbel0:Below w.heap.size w W0:=by
  rw [hW0]
  exact (((Below.refl _ w).alloc (aL _) _).alloc (by simp) _).alloc (by simp; omega) _
 have bO:=Boxed.new w 84 (.slice none 0 0)
 have bS:=Boxed.new (w.alloc (.cells #[.slice none 0 0] 84)) 84 (.slice a v.length cap)
 have bN:=Boxed.new ((w.alloc (.cells #[.slice none 0 0] 84)).alloc (.cells #[.slice a v.length cap] 84)) 3 (.int .i64 2)
 rw [World.size_alloc] at bS
 rw [World.size_alloc,World.size_alloc] at bN
 have cS:W0.cell? ⟨w.heap.size + 1,0,none⟩=some (.slice a v.length cap):=by rw [hW0]; exact (bS.alloc _).cell
 have cN:W0.cell? ⟨w.heap.size + 1 + 1,0,none⟩=some (.int .i64 2):=by rw [hW0]; exact bN.cell
 have bI:aAL (w.heap.size + 3) w.heap.size W0 []:=by
  rw [hW0]
  exact ⟨.slice none 0 0,[],aKD ((bO.alloc _).alloc _),.inl ⟨none,rfl,rfl,rfl⟩,by simp,by simp⟩
 rw [<- hW0]
 refine wpIn_rangeFunc_ownF rfl (by decide) (gf:=246) (lb:=#[.pointer (some ⟨w.heap.size + 1,0,none⟩),.pointer (some ⟨w.heap.size + 1 + 1,0,none⟩)]) rfl trivial (Go.Proofs.enters_of Go.Proofs.Tryz.func246 (by kernel_rfl) rfl)
  (aG6 Fence.wide (4 - 1) trivial rfl (by decide) (w.heap.size + 1) (w.heap.size + 1 + 1) w.heap.size b off v.length cap a (by omega) W0 (ha.imp id fun h=>⟨h.1,h.2.1,h.2.2.1⟩) (by omega) (by omega) cS cN)
  sJ.trans ?kb (Below.refl _ _) (fun _=>rfl)
  (fun pre W=>aAL (w.heap.size + 3) w.heap.size W (tE v pre)/\Below w.heap.size w W/\w.heap.size + 3<=W.heap.size)
  (fun _ _ _=>False)
  (OwnFrom.and ((aAL.own (w.heap.size + 3) w.heap.size (tE v)).from _) (OwnFrom.and (ownFrom_below (aL _) (by omega)) (fun s A B row hs hg hr=>aR hs hg.size)))
  (fun _ _ _ _ _ hs _ _=>hs)
  ⟨bI,hbel0,by omega⟩
  (fun x=>{ tmps:=#[.slice a v.length cap,undef,.slice none 0 0,.pointer (some ⟨w.heap.size,0,none⟩),.slice (some ⟨b,off + 2 * x.1,none⟩) (min 2 (v.length - 2 * x.1)) (min 2 (v.length - 2 * x.1)),.slice a v.length cap,.func (.func 246) #[] #[.pointer (some ⟨w.heap.size + 1,0,none⟩),.pointer (some ⟨w.heap.size + 1 + 1,0,none⟩)],.slice (some ⟨b,off + 2 * x.1,none⟩) (min 2 (v.length - 2 * x.1)) (min 2 (v.length - 2 * x.1)),undef,undef,undef,undef,undef,undef,undef,undef,undef,undef,undef,undef,undef,undef,undef,undef,undef,undef,undef,undef],defers:=[] }) ?assign ?body ?done ?stop
 case kb =>
  intro W l o o' hl h1 h2 h3
  refine ⟨belowK_b (w:=w) (aL _) W l o o' (by omega) h1 h2 h3,?_,?_⟩
  ·exact (World.putObj_heap_other (by omega))
  ·exact (World.putObj_heap_other (by omega))
 case assign =>
  intro l x W K hK
  simp only [enc]
  gi_wp2
  exact hK
 case body =>
  rintro l pre x W ⟨hB,hbel,hs3⟩ hlen
  obtain ⟨pr,hpl,hpg,hg⟩:=aUj v hv x.1 x.2
  rcases ha with h0|⟨rfl,hcap,hbw,hcell⟩
  ·have:=x.2; omega
  obtain ⟨bd,hbd,H⟩:=aLU w W M hgl (w.heap.size + 3) w.heap.size b (off + 2 * x.1) (tE v pre) pr (gR v x.1)
   #[.slice (some ⟨b,off,none⟩) v.length cap,undef,.slice none 0 0,.pointer (some ⟨w.heap.size,0,none⟩),.slice (some ⟨b,off + 2 * x.1,none⟩) (min 2 (v.length - 2 * x.1)) (min 2 (v.length - 2 * x.1)),.slice (some ⟨b,off,none⟩) v.length cap,.func (.func 246) #[] #[.pointer (some ⟨w.heap.size + 1,0,none⟩),.pointer (some ⟨w.heap.size + 1 + 1,0,none⟩)],.slice (some ⟨b,off + 2 * x.1,none⟩) (min 2 (v.length - 2 * x.1)) (min 2 (v.length - 2 * x.1)),undef,undef,undef,undef,undef,undef,undef,undef,undef,undef,undef,undef,undef,undef,undef,undef,undef,undef,undef,undef]
   rfl rfl (by rw [hpl]; rfl) (by rw [hpl]; have:=x.2; omega)
   (fun j u hj=>by
    have h1:=hcell _ _ (hpg j u hj)
    rw [<- Nat.add_assoc] at h1
    exact (hbel.cell (p:=⟨b,off + 2 * x.1 + j,none⟩) hbw).trans h1)
   hbw (aL _) (by omega) hs3 hB hbel hg (by
    have:(tE v pre).length=pre.length:=by simp [tE]
    omega) l (4 - 1 - 1)
  have key:∀ bd',(Go.Proofs.Tryz.f195).body.bind lG=some bd'->bd'.wpIn (Fence.wide.inRound l) (4 - 1 - 1) Go.Proofs.Tryz.prog _ _ _:=fun bd' h=>by
   rw [hbd] at h
   injection h with h
   subst h
   exact wpIn_mono H (Q':=ownPostK (sJ w.heap.size (w.heap.size + 1) (w.heap.size + 1 + 1)) (fun pre W=>aAL (w.heap.size + 3) w.heap.size W (tE v pre)/\Below w.heap.size w W/\w.heap.size + 3<=W.heap.size) (fun _ _ _=>False) (pre ++ [x]) W) (by
    rintro e a' W' ⟨rfl,h1,h2,h3,h4,h5,h6,h7⟩
    have hbW:Below w.heap.size W W':=⟨h2,h3,h4,h5,fun k hk=>h6 k (by omega) (by omega) (by omega)⟩
    refine ⟨?_,⟨hbW,h6 _ (by omega) (by omega) (by omega),h6 _ (by omega) (by omega) (by omega)⟩,?_,hbel.trans hbW,by omega⟩
    ·exact ⟨h5,h7⟩
    ·have e:tE v (pre ++ [x])=tE v pre ++ [gR v x.1]:=by simp [tE]
     rw [e]; exact h1)
  exact key _ rfl
 case done =>
  rintro D ys W hD hS ⟨⟨u,fp,q1,q2,q3,q4⟩,hbel,_⟩ hK
  have hcB:=aNp q1
  have eO:tE v ys=fW v:=by
   rw [<- aEf]
   unfold tE
   have:ys.map (fun x=>gR v x.1)=(ys.map (·.1)).map (gR v):=by rw [a7]; rfl
   rw [this,hS]
  rw [eO] at q2
  gi_wp2
  refine ⟨by simp,.inl ⟨_,_,rfl,run_takeDeferred hK,?_⟩⟩
  refine ⟨_,results_tmp rfl _ _ _,u,fp,rfl,?_,fun k hk=>by have:=q4 k hk; omega,?_⟩
  ·refine q2.keep fun k hk=>?_
   obtain ⟨o,h1,h2⟩:=q2.row k hk
   refine World.putObj_heap_other fun e=>?_
   subst e
   rw [hK] at h1
   injection h1 with h1
   rw [<- h1] at h2
   cases h2
  ·exact hbel.trans (belowK_b (w:=w) (aL _) W D _ _ (by omega) hK rfl rfl)
 case stop =>
  rintro D c pre W _ _ h _
  exact h.elim
theorem aG7:uN:=by
 intro v hl hv M vs w hM hG hr
 obtain ⟨cs,us,f1,f2,rfl,e,h1,rfl,rfl⟩:=hr
 obtain ⟨rfl,_⟩:=List.append_eq_nil_iff.1 e.symm
 obtain ⟨_,a,cap,ds,fps,rfl,hc,h3,h4⟩:=h1
 obtain ⟨rfl,_⟩:=r7 _ _ _ h3
 simp only [bH,if_false] at h4
 rw [cP] at hc h4 ⊢
 have hcall:∀ (b off:Nat),(v.length=0\/(a=some ⟨b,off,none⟩/\v.length<=cap/\b < w.heap.size/\∀ j u,v[j]?=some u->w.cell? ⟨b,off + j,none⟩=some (.int .i64 u)))->Calls Go.Proofs.Tryz.prog 195 #[.slice a v.length cap] w fun e w'=>∃ rs us fp,e=.returned (qY us)/\rs=[.sl true 1 (dl iD (fW v))]/\eM w' (fun b=>M b\/b∈fp) rs us fp/\fp.Nodup/\(∀ b∈fp,w.heap.size<=b)/\kN w w':=by
  intro b off h
  refine (aKX v hv hl w M hG a cap b off h).mono ?_
  rintro e w' ⟨u,fp,rfl,h1,h2,h3⟩
  refine ⟨_,[u],fp,rfl,rfl,⟨[u],[],fp,[],rfl,by simp,h1.rep,rfl,rfl⟩,?_,h2,h3⟩
  rcases h1 with ⟨_,_,_,rfl⟩|⟨_,_,_,_,_,rfl⟩<;>simp
 rcases h4.2.2 with h0|⟨ad,rfl,hH⟩
 ·exact hcall 0 0 (.inl h0)
 ·rcases hH with h0|⟨hb,_,hcell⟩
  ·refine hcall 0 0 (.inl ?_)
   simpa using congrArg List.length h0
  ·obtain ⟨b,off,sp⟩:=ad
   cases sp with
   | none =>
    refine hcall b off (.inr ⟨rfl,hc,hb,fun j u hj=>?_⟩)
    have:=hcell j (.int .i64 u) (by rw [List.getElem?_map,hj]; rfl)
    rwa [Addr.add_lit] at this
   | some k =>
    by_cases h0:v.length=0
    ·exact hcall 0 0 (.inl h0)
    ·exfalso
     obtain ⟨u,hu⟩:=dW (show 0 < v.length by omega)
     have:=hcell 0 (.int .i64 u) (by rw [List.getElem?_map,hu]; rfl)
     simp [Addr.add,World.cell?] at this
     split at this<;>cases this
end Go.Pe.Tryz
namespace Go.Pe.Tryz
open Go Go.RowKit Go.Shelf Go.Lib Go.Proofs.Tryz
theorem yJ {P:Program} {ops:Array Oper} {o:Oper} {a:Act} {w:World} {K:Act->World->Prop} {Q:Exit->Act->World->Prop} {E:Prop}
  (hg:o.guard=none) (d x:Operand) (dT sT:TypeId) (hop:o.op=Op.call { callee:=Callee.builtin Builtin.append,args:=#[d,x],argTypes:=#[dT,sT] })
  (v u:Value) (hd:a.eval d=v) (hx:a.eval x=u) {v':Value} {w':World} (hr:(Builtin.append_ #[dT,sT] o.type #[v,u]).run P w=.ok v' w') (hK:K (a.put o.dst v') w') :
  if Region.wanted o (yielded ops a.tmps)=true then Oper.wp P o a w K Q else E:=by
 have hw:Region.wanted o (yielded ops a.tmps)=true:=by simp [Region.wanted,hg]
 rw [if_pos hw]
 unfold Oper.wp
 simp [execOp,hop,resolve,invoke,builtin,hd,hx,hr,Result.andThen]
 exact hK
theorem aI9 {P:PG} {f:FuncId} (es:Nat)
  (raw:∀ (g n cp i j:Nat) (cs:List Value) (w:World),gN w g (cp * es) cs->cs.length=n * es->n<=cp->i < j->j<=n->(∀ v∈cs,v.oneCell'=true) ->
   Calls P.P f #[.slice (some ⟨g,0,none⟩) n cp,.int .i64 i,.int .i64 j] w fun e w' =>
    e=.returned (.slice (some ⟨g,0,none⟩) (n - (j - i)) cp)/\gN w' g (cp * es) (cs.take (i * es) ++ cs.drop (j * es))/\Went w w' (fun b=>b=g)/\(kS w g->kS w' g))
  (xs:List D) (hs:∀ x∈xs,x.size=es) (i j:Nat) (hij:i < j) (hj:j<=xs.length) :
  FnM P f false (.sl true es (i6 xs)) [.int .i64 i,.int .i64 j] (fun x' rs=>(∃ u,x'=.lnk 0 u)/\rs=[.sl true es (i6 (xs.take i ++ xs.drop j))]):=by
 intro M oc vs w hM hob hnd hlt hG hr
 obtain ⟨_,us1,f1,f2,rfl,e0,⟨rfl,rfl⟩,_,us2,f3,f4,rfl,e1,⟨rfl,rfl⟩,rfl,rfl⟩:=hr
 obtain ⟨cs0,hrep,hv⟩:=hob
 obtain ⟨hL,a,c,ds,fps,rfl,hc,h3,h4⟩:=hrep
 rw [eN] at hc hv
 simp only [if_true] at h4
 rcases h4 with ⟨rfl,_,_⟩|⟨g,rfl,hrow,hfp⟩
 ·omega
 have hone:=oC _ _ _ h3
 have hdl:ds.length=xs.length * es:=by rw [dH _ _ _ h3,jC _ hs]
 have hv':mkV false oc=.slice (some ⟨g,0,none⟩) xs.length c:=by
  show oc.v=_
  rw [hv]; rfl
 rw [hv']
 have hsp:xs=xs.take i ++ ((xs.drop i).take (j - i) ++ xs.drop j):=by
  have:xs.drop j=(xs.drop i).drop (j - i):=by rw [List.drop_drop]; congr 1; omega
  rw [this,bC,bC]
 have h3':=h3
 rw [hsp] at h3'
 obtain ⟨c1,c23,p1,p23,ed,ef,r1,r23⟩:=(fC _ _ _ _).1 h3'
 obtain ⟨c2,c3,p2,p3,rfl,rfl,r2,r3⟩:=(fC _ _ _ _).1 r23
 have l1:c1.length=i * es:=by
  rw [dH _ _ _ r1,jC _ (fun y hy=>hs y (aV hy)),aA,aC (by omega)]
 have l2:c2.length=(j - i) * es:=by
  rw [dH _ _ _ r2,jC _ (fun y hy=>hs y (aN (aV hy))),aA,aF,aC (by omega)]
 have t1:ds.take (i * es)=c1:=by rw [ed,<-l1,bA]
 have t3:ds.drop (j * es)=c3:=by
  have:j * es=(c1 ++ c2).length:=by rw [aB,l1,l2,<-aW]; congr 1; omega
  rw [ed,<-aP,this,b8]
 refine (raw g xs.length c i j ds w hrow.1 hdl hc hij hj hone).mono ?_
 rintro e w' ⟨rfl,hrow',hw,hnm⟩
 rw [t1,t3] at hrow'
 rw [hfp,ef] at hnd hlt
 obtain ⟨hg,hnd⟩:=aM.1 hnd
 have n1:=bJ.1 hnd
 have n2:=bJ.1 n1.2.1
 have sub:∀ b∈g :: (p1 ++ p3),b∈oc.fp:=fun b hb=>by
  rw [hfp,ef]
  rcases aS.1 hb with hb|hb
  ·simp [hb]
  ·rcases bD.1 hb with hb|hb<;>simp [hb]
 have hin:∀ b,b∈g :: (p1 ++ (p2 ++ p3))↔b∈oc.fp:=fun b=>by rw [hfp,ef]
 have frame:∀ (q:List D) (cs:List Value) (p:List Nat),(∀ b∈p,b≠g)->(i6 q).rep w (fun b=>M b\/b∈oc.fp) cs p->(i6 q).rep w' (fun b=>M b\/b∈[] ++ (g :: (p1 ++ p3))) cs p:=by
  intro q cs p hp hq
  refine dZ hw.size (fun b _ h=>h.imp id (fun h=>sub b (by simpa using h))) _ _ _ (fun b hb hx=>hw.kept b hb fun e=>?_) hq
  subst e
  rcases hx with hx|hx
  ·exact hp _ hx rfl
  ·exact hx (.inr ((hin _).1 (by simp)))
 have nd:(g :: (p1 ++ p3)).Nodup:=by
  refine aM.2 ⟨fun h=>hg ?_,bJ.2 ⟨n1.1,n2.2.1,fun a ha b hb=>n1.2.2 a ha b (by simp [hb])⟩⟩
  rcases bD.1 h with h|h<;>simp [h]
 refine ⟨.lnk 0 oc.v,_,[.slice (some ⟨g,0,none⟩) (xs.length - (j - i)) c],[],g :: (p1 ++ p3),rfl,⟨⟨_,rfl⟩,rfl⟩,⟨[oc.v],⟨rfl,by rw [hv]; rfl,rfl⟩,rfl⟩,?_,by simpa using nd,fun b hb=>?_,?_⟩
 ·have hl':(xs.take i ++ xs.drop j).length=xs.length - (j - i):=by simp; omega
  refine ⟨[.slice (some ⟨g,0,none⟩) (xs.length - (j - i)) c],[],g :: (p1 ++ p3),[],rfl,by simp,⟨(iJ _).2 fun y hy=>?_,some ⟨g,0,none⟩,c,c1 ++ c3,p1 ++ p3,by rw [eN,hl'],by rw [eN,hl']; omega,?_,?_⟩,rfl,rfl⟩
  ·rcases bD.1 hy with hy|hy
   ·exact hs y (aV hy)
   ·exact hs y (aN hy)
  ·exact (fC _ _ _ _).2 ⟨c1,c3,p1,p3,rfl,rfl,frame _ _ _ (fun b hb e=>hg (by simp [<- e,hb])) r1,frame _ _ _ (fun b hb e=>hg (by simp [<- e,hb])) r3⟩
  ·simp only [if_true]
   exact .inr ⟨g,rfl,⟨hrow',fun he=>hnm (hrow.2 he)⟩,rfl⟩
 ·have hb':b∈g :: (p1 ++ p3):=by simpa using hb
  exact ⟨.inl (sub b hb'),by have:=hlt b ((hin b).2 (sub b hb')); have:=hw.size; omega⟩
 ·exact ⟨hw.os,hw.tape,hw.output,hw.size,fun b hb hx=>hw.kept b hb fun e=>hx (sub b (by simp [e]))⟩
theorem aF1 (g n cp i j:Nat) (cs:List Value) (w:World) (hrow:gN w g (cp * 4) cs) (hlen:cs.length=n * 4) (hn:n<=cp) (hij:i < j) (hj:j<=n) (h1:∀ v∈cs,v.oneCell'=true) :
  Calls Go.Proofs.Tryz.prog 215 #[.slice (some ⟨g,0,none⟩) n cp,.int .i64 i,.int .i64 j] w fun e w' =>
   e=.returned (.slice (some ⟨g,0,none⟩) (n - (j - i)) cp)/\gN w' g (cp * 4) (cs.take (i * 4) ++ cs.drop (j * 4))/\Went w w' (fun b=>b=g)/\(kS w g->kS w' g):=by
 obtain ⟨inf,hinf,hsize,hzero⟩:∃ inf,Go.Proofs.Tryz.prog.info? 115=some inf/\inf.size=4/\inf.zero=some (.agg #[.int .i64 0,.int .i64 0,.int .i64 0,.slice none 0 0]):=⟨_,rfl,rfl,rfl⟩
 have hu:Go.Proofs.Tryz.prog.underlying 37=some (.slice 115):=rfl
 obtain ⟨cur,E,hcur,hsz,htk⟩:=hrow
 have hfit:cs.length<=cur.toList.length:=by
  have e:cur.toList.length=cur.size:=by simp
  rw [e,hsz,hlen]
  exact aE _ hn
 obtain ⟨news,hnews⟩:∃ news,news=cs.drop (j * 4):=⟨_,rfl⟩
 have hnl:news.length=(n - j) * inf.size:=by rw [hnews,aF,hlen,hsize]; omega
 obtain ⟨row1,hrow1⟩:∃ row1,row1=(cur.toList.take (i * inf.size) ++ news ++ cur.toList.drop (i * inf.size + news.length)).toArray:=⟨_,rfl⟩
 have hcurd:gW w.drew g cur E:=hcur
 have hA:∃ A:Addr,(if cp=j then (some ⟨g,0,none⟩:Option Addr) else some ⟨g,j * 4,none⟩)=some A/\Hid (∀ t u,news[t]?=some u->w.drew.cell? (A.add t)=some u):=by
  by_cases h:cp=j
  ·refine ⟨⟨g,0,none⟩,by simp [h],fun t u hu=>?_⟩
   have h0:news=[]:=aX (by rw [hnl,show n - j=0 by omega,cA])
   rw [h0] at hu
   simp at hu
  ·refine ⟨⟨g,j * 4,none⟩,by simp [h],fun t u hu=>?_⟩
   rw [Addr.add_lit,hcurd.cell]
   rw [hnews,List.getElem?_drop,<-htk,List.getElem?_take] at hu
   split at hu
   ·simpa using hu
   ·cases hu
 obtain ⟨A,hA,hsrc⟩:=hA
 have s2:Hid (∀ u∈news,u.oneCell'=true):=fun u hu=>h1 u (by rw [hnews] at hu; exact aN hu)
 have hap:Hid (∀ ty,(Builtin.append_ #[37,37] ty #[.slice (some ⟨g,0,none⟩) i cp,.slice (some A) (n - j) (cp - j)]).run Go.Proofs.Tryz.prog w.drew=.ok (.slice (some ⟨g,0,none⟩) (i + (n - j)) cp) (w.drew.setRow g row1)):=fun ty=>by
  rw [hrow1]
  refine n7 hu hinf g i cp cur hcurd A (n - j) (cp - j) news hnl hsrc.out s2.out (by omega) ?_
  rw [hnl,hsize,hsz,<-aW]
  exact aE _ (by omega)
 have hr1s:row1.size=cur.size:=by
  rw [hrow1]
  simp only [aH,aB,aA,aF,hnl,hsize,aJ,hsz]
  have:(i + (n - j)) * 4<=cp * 4:=aE _ (by omega)
  omega
 obtain ⟨W1,hW1⟩:∃ W1,W1=w.drew.setRow g row1:=⟨_,rfl⟩
 have hcur1:gW W1 g row1 E:=by rw [hW1]; exact hcurd.set hr1s
 have hW:Hid (W1=w.drew.setRow g row1):=hW1
 obtain ⟨row2,hrow2⟩:∃ row2,row2=(row1.toList.take ((i + (n - j)) * 4) ++ (madeCells ((.agg #[.int .i64 0,.int .i64 0,.int .i64 0,.slice none 0 0]):Value).cells ((n - (i + (n - j))) * ((.agg #[.int .i64 0,.int .i64 0,.int .i64 0,.slice none 0 0]):Value).cells.size)).toList ++ row1.toList.drop ((i + (n - j)) * 4 + (madeCells ((.agg #[.int .i64 0,.int .i64 0,.int .i64 0,.slice none 0 0]):Value).cells ((n - (i + (n - j))) * ((.agg #[.int .i64 0,.int .i64 0,.int .i64 0,.slice none 0 0]):Value).cells.size)).toList.length)).toArray:=⟨_,rfl⟩
 have hcl:∀ ty,(Builtin.clear_ #[37] ty #[.slice (some ⟨g,(i + (n - j)) * 4,none⟩) (n - (i + (n - j))) (cp - (i + (n - j)))]).run Go.Proofs.Tryz.prog W1=.ok (.tuple #[]) (W1.setRow g row2):=fun ty=>by
  rw [hrow2]
  refine aEl hu hinf hzero (by omega) hcur1 ?_ (by decide)
  show (i + (n - j)) * 4 + (n - (i + (n - j))) * 4<=row1.size
  rw [hr1s,hsz,<-aW]
  exact aE _ (by omega)
 have hr2:Hid (row2=(row1.toList.take ((i + (n - j)) * 4) ++ (madeCells ((.agg #[.int .i64 0,.int .i64 0,.int .i64 0,.slice none 0 0]):Value).cells ((n - (i + (n - j))) * ((.agg #[.int .i64 0,.int .i64 0,.int .i64 0,.slice none 0 0]):Value).cells.size)).toList ++ row1.toList.drop ((i + (n - j)) * 4 + (madeCells ((.agg #[.int .i64 0,.int .i64 0,.int .i64 0,.slice none 0 0]):Value).cells ((n - (i + (n - j))) * ((.agg #[.int .i64 0,.int .i64 0,.int .i64 0,.slice none 0 0]):Value).cells.size)).toList.length)).toArray):=hrow2
 have mixed:Go.Proofs.Tryz.prog.follows .mixedOrders=true:=rfl
 have hic:i<=cp:=by omega
 have hjc:j<=cp:=by omega
 have hnt:Go.Proofs.Tryz.f215.ntmps=33:=rfl
 have hlt:i<=j:=by omega
 have hne:¬ ((i:Int)=(j:Int)):=by omega
 have hk1:inf.size=4:=hsize
 have X0:Aside (cs.length=n * 4):=hlen
 have X8:Aside (gW w.drew g cur E):=hcurd
 have X1:Aside (gW W1 g row1 E):=hcur1
 have X2:Aside (row1=(cur.toList.take (i * inf.size) ++ news ++ cur.toList.drop (i * inf.size + news.length)).toArray):=hrow1
 have X3:Aside (news=cs.drop (j * 4)):=hnews
 have X4:Aside (cur.toList.take cs.length=cs):=htk
 have X5:Aside (news.length=(n - j) * inf.size):=hnl
 have X6:Aside (row1.size=cur.size):=hr1s
 have X7:Aside (cur.size=cp * 4):=hsz
 clear hcur1 hrow1 hnews htk hnl hr1s hrow2 hW1 hsz hfit hcur hcurd hlen
 try simp only [bR] at hA hcl
 go_enter Go.Proofs.Tryz.func215,hnt
 go_wp2_with fail
 go_region_law_o (refine yJ rfl (.tmp 22) (.tmp 25) 37 37 rfl _ _ (by simp [Act.eval,Act.put]) (by simp [Act.eval,Act.put]) (hap.out _) ?_; rw [<- hW.out])
 go_wp2
 go_ret
 have hcur1:=X1.out
 have hrow1:=X2.out
 have hnews:=X3.out
 have htk:=X4.out
 have hnl:=X5.out
 have hr1s:=X6.out
 have hsz:=X7.out
 have hlen:=X0.out
 have hr2:=hr2.out
 have hW:=hW.out
 rw [hk1] at hrow1 hnl
 have hz:(madeCells ((.agg #[.int .i64 0,.int .i64 0,.int .i64 0,.slice none 0 0]):Value).cells ((n - (i + (n - j))) * ((.agg #[.int .i64 0,.int .i64 0,.int .i64 0,.slice none 0 0]):Value).cells.size)).toList.length=(n - (i + (n - j))) * 4:=by
  rw [aJ,size_madeCells]; rfl
 generalize (madeCells ((.agg #[.int .i64 0,.int .i64 0,.int .i64 0,.slice none 0 0]):Value).cells ((n - (i + (n - j))) * ((.agg #[.int .i64 0,.int .i64 0,.int .i64 0,.slice none 0 0]):Value).cells.size)).toList=zs at hz hr2
 have hle:(i + (n - j)) * 4<=row1.toList.length:=by
  rw [aJ,hr1s,hsz]
  exact aE _ (by omega)
 have hle2:(i + (n - j)) * 4 + (n - (i + (n - j))) * 4<=row1.toList.length:=by
  rw [<- aW,aJ,hr1s,hsz]
  exact aE _ (by omega)
 have hr2s:row2.size=row1.size:=by
  rw [hr2,aH,aB,aB,aA,aF,hz,aC hle]
  rw [aJ] at hle2 ⊢
  omega
 have hcl2:(i + (n - j)) * 4=i * 4 + (n - j) * 4:=aW _ _ _
 have hlt1:(cs.take (i * 4)).length=i * 4:=by
  rw [aA,hlen]
  exact aC (aE _ (by omega))
 have hct:cur.toList.take (i * 4)=cs.take (i * 4):=by
  rw [<- htk,bG]
  congr 1
  rw [hlen]
  exact (aC (aE _ (by omega))).symm
 refine ⟨congrArg Ending.returned (show Value.slice (some ⟨g,0,none⟩) (i + (n - j)) cp=_ by rw [show i + (n - j)=n - (j - i) by omega]),⟨row2,E,hcur1.set hr2s,by rw [hr2s,hr1s,hsz],?_⟩,?_,fun hn=>?_⟩
 ·have e1:(cs.take (i * 4) ++ cs.drop (j * 4)).length=(i + (n - j)) * 4:=by
   rw [aB,hlt1,<-hnews,hnl,hcl2]
  rw [e1,hr2]
  show (row1.toList.take ((i + (n - j)) * 4) ++ zs ++ _).take ((i + (n - j)) * 4)=_
  rw [aP,aU (by rw [aA]; exact aC hle),hrow1]
  show (cur.toList.take (i * 4) ++ news ++ _).take ((i + (n - j)) * 4)=_
  rw [aU (by rw [aB,hct,hlt1,hnl,hcl2]),hct,hnews]
 ·rw [hW]
  have h1:Went w w.drew (fun b=>b=g):=⟨rfl,rfl,rfl,aL _,fun _ _ _=>rfl⟩
  have h2:=fF w.drew g row1
  have h3:=fF (w.drew.setRow g row1) g row2
  refine ⟨h3.os.trans (h2.os.trans h1.os),h3.tape.trans (h2.tape.trans h1.tape),h3.output.trans (h2.output.trans h1.output),aR h1.size (aR h2.size h3.size),fun b hb hx=>?_⟩
  rw [h3.kept b (by simpa using hb) hx,h2.kept b hb hx]
  rfl
 ·refine kS.set hcur1 ?_
  rw [hW]
  exact kS.set X8.out (fun cur E fz e=>hn cur E fz e)
theorem aFz (g n cp i j:Nat) (cs:List Value) (w:World) (hrow:gN w g (cp * 1) cs) (hlen:cs.length=n * 1) (hn:n<=cp) (hij:i < j) (hj:j<=n) (h1:∀ v∈cs,v.oneCell'=true) :
  Calls Go.Proofs.Tryz.prog 190 #[.slice (some ⟨g,0,none⟩) n cp,.int .i64 i,.int .i64 j] w fun e w' =>
   e=.returned (.slice (some ⟨g,0,none⟩) (n - (j - i)) cp)/\gN w' g (cp * 1) (cs.take (i * 1) ++ cs.drop (j * 1))/\Went w w' (fun b=>b=g)/\(kS w g->kS w' g):=by
 obtain ⟨inf,hinf,hsize,hzero⟩:∃ inf,Go.Proofs.Tryz.prog.info? 3=some inf/\inf.size=1/\inf.zero=some (.int .i64 0):=⟨_,rfl,rfl,rfl⟩
 have hu:Go.Proofs.Tryz.prog.underlying 84=some (.slice 3):=rfl
 obtain ⟨cur,E,hcur,hsz,htk⟩:=hrow
 have hfit:cs.length<=cur.toList.length:=by
  have e:cur.toList.length=cur.size:=by simp
  rw [e,hsz,hlen]
  exact aE _ hn
 obtain ⟨news,hnews⟩:∃ news,news=cs.drop (j * 1):=⟨_,rfl⟩
 have hnl:news.length=(n - j) * inf.size:=by rw [hnews,aF,hlen,hsize]; omega
 obtain ⟨row1,hrow1⟩:∃ row1,row1=(cur.toList.take (i * inf.size) ++ news ++ cur.toList.drop (i * inf.size + news.length)).toArray:=⟨_,rfl⟩
 have hcurd:gW w.drew g cur E:=hcur
 have hA:∃ A:Addr,(if cp=j then (some ⟨g,0,none⟩:Option Addr) else some ⟨g,j * 1,none⟩)=some A/\Hid (∀ t u,news[t]?=some u->w.drew.cell? (A.add t)=some u):=by
  by_cases h:cp=j
  ·refine ⟨⟨g,0,none⟩,by simp [h],fun t u hu=>?_⟩
   have h0:news=[]:=aX (by rw [hnl,show n - j=0 by omega,cA])
   rw [h0] at hu
   simp at hu
  ·refine ⟨⟨g,j * 1,none⟩,by simp [h],fun t u hu=>?_⟩
   rw [Addr.add_lit,hcurd.cell]
   rw [hnews,List.getElem?_drop,<-htk,List.getElem?_take] at hu
   split at hu
   ·simpa using hu
   ·cases hu
 obtain ⟨A,hA,hsrc⟩:=hA
 have s2:Hid (∀ u∈news,u.oneCell'=true):=fun u hu=>h1 u (by rw [hnews] at hu; exact aN hu)
 have hap:Hid (∀ ty,(Builtin.append_ #[84,84] ty #[.slice (some ⟨g,0,none⟩) i cp,.slice (some A) (n - j) (cp - j)]).run Go.Proofs.Tryz.prog w.drew=.ok (.slice (some ⟨g,0,none⟩) (i + (n - j)) cp) (w.drew.setRow g row1)):=fun ty=>by
  rw [hrow1]
  refine n7 hu hinf g i cp cur hcurd A (n - j) (cp - j) news hnl hsrc.out s2.out (by omega) ?_
  rw [hnl,hsize,hsz,<-aW]
  exact aE _ (by omega)
 have hr1s:row1.size=cur.size:=by
  rw [hrow1]
  simp only [aH,aB,aA,aF,hnl,hsize,aJ,hsz]
  have:(i + (n - j)) * 1<=cp * 1:=aE _ (by omega)
  omega
 obtain ⟨W1,hW1⟩:∃ W1,W1=w.drew.setRow g row1:=⟨_,rfl⟩
 have hcur1:gW W1 g row1 E:=by rw [hW1]; exact hcurd.set hr1s
 have hW:Hid (W1=w.drew.setRow g row1):=hW1
 obtain ⟨row2,hrow2⟩:∃ row2,row2=(row1.toList.take ((i + (n - j)) * 1) ++ (madeCells ((.int .i64 0):Value).cells ((n - (i + (n - j))) * ((.int .i64 0):Value).cells.size)).toList ++ row1.toList.drop ((i + (n - j)) * 1 + (madeCells ((.int .i64 0):Value).cells ((n - (i + (n - j))) * ((.int .i64 0):Value).cells.size)).toList.length)).toArray:=⟨_,rfl⟩
 have hcl:∀ ty,(Builtin.clear_ #[84] ty #[.slice (some ⟨g,(i + (n - j)) * 1,none⟩) (n - (i + (n - j))) (cp - (i + (n - j)))]).run Go.Proofs.Tryz.prog W1=.ok (.tuple #[]) (W1.setRow g row2):=fun ty=>by
  rw [hrow2]
  refine aEl hu hinf hzero (by omega) hcur1 ?_ (by decide)
  show (i + (n - j)) * 1 + (n - (i + (n - j))) * 1<=row1.size
  rw [hr1s,hsz,<-aW]
  exact aE _ (by omega)
 have hr2:Hid (row2=(row1.toList.take ((i + (n - j)) * 1) ++ (madeCells ((.int .i64 0):Value).cells ((n - (i + (n - j))) * ((.int .i64 0):Value).cells.size)).toList ++ row1.toList.drop ((i + (n - j)) * 1 + (madeCells ((.int .i64 0):Value).cells ((n - (i + (n - j))) * ((.int .i64 0):Value).cells.size)).toList.length)).toArray):=hrow2
 have mixed:Go.Proofs.Tryz.prog.follows .mixedOrders=true:=rfl
 have hic:i<=cp:=by omega
 have hjc:j<=cp:=by omega
 have hnt:Go.Proofs.Tryz.f190.ntmps=33:=rfl
 have hlt:i<=j:=by omega
 have hne:¬ ((i:Int)=(j:Int)):=by omega
 have hk1:inf.size=1:=hsize
 have X0:Aside (cs.length=n * 1):=hlen
 have X8:Aside (gW w.drew g cur E):=hcurd
 have X1:Aside (gW W1 g row1 E):=hcur1
 have X2:Aside (row1=(cur.toList.take (i * inf.size) ++ news ++ cur.toList.drop (i * inf.size + news.length)).toArray):=hrow1
 have X3:Aside (news=cs.drop (j * 1)):=hnews
 have X4:Aside (cur.toList.take cs.length=cs):=htk
 have X5:Aside (news.length=(n - j) * inf.size):=hnl
 have X6:Aside (row1.size=cur.size):=hr1s
 have X7:Aside (cur.size=cp * 1):=hsz
 clear hcur1 hrow1 hnews htk hnl hr1s hrow2 hW1 hsz hfit hcur hcurd hlen
 try simp only [bR] at hA hcl
 go_enter Go.Proofs.Tryz.func190,hnt
 go_wp2_with fail
 go_region_law_o (refine yJ rfl (.tmp 22) (.tmp 25) 84 84 rfl _ _ (by simp [Act.eval,Act.put]) (by simp [Act.eval,Act.put]) (hap.out _) ?_; rw [<- hW.out])
 go_wp2
 go_ret
 have hcur1:=X1.out
 have hrow1:=X2.out
 have hnews:=X3.out
 have htk:=X4.out
 have hnl:=X5.out
 have hr1s:=X6.out
 have hsz:=X7.out
 have hlen:=X0.out
 have hr2:=hr2.out
 have hW:=hW.out
 rw [hk1] at hrow1 hnl
 have hz:(madeCells ((.int .i64 0):Value).cells ((n - (i + (n - j))) * ((.int .i64 0):Value).cells.size)).toList.length=(n - (i + (n - j))) * 1:=by
  rw [aJ,size_madeCells]; rfl
 generalize (madeCells ((.int .i64 0):Value).cells ((n - (i + (n - j))) * ((.int .i64 0):Value).cells.size)).toList=zs at hz hr2
 have hle:(i + (n - j)) * 1<=row1.toList.length:=by
  rw [aJ,hr1s,hsz]
  exact aE _ (by omega)
 have hle2:(i + (n - j)) * 1 + (n - (i + (n - j))) * 1<=row1.toList.length:=by
  rw [<- aW,aJ,hr1s,hsz]
  exact aE _ (by omega)
 have hr2s:row2.size=row1.size:=by
  rw [hr2,aH,aB,aB,aA,aF,hz,aC hle]
  rw [aJ] at hle2 ⊢
  omega
 have hcl2:(i + (n - j)) * 1=i * 1 + (n - j) * 1:=aW _ _ _
 have hlt1:(cs.take (i * 1)).length=i * 1:=by
  rw [aA,hlen]
  exact aC (aE _ (by omega))
 have hct:cur.toList.take (i * 1)=cs.take (i * 1):=by
  rw [<- htk,bG]
  congr 1
  rw [hlen]
  exact (aC (aE _ (by omega))).symm
 refine ⟨congrArg Ending.returned (show Value.slice (some ⟨g,0,none⟩) (i + (n - j)) cp=_ by rw [show i + (n - j)=n - (j - i) by omega]),⟨row2,E,hcur1.set hr2s,by rw [hr2s,hr1s,hsz],?_⟩,?_,fun hn=>?_⟩
 ·have e1:(cs.take (i * 1) ++ cs.drop (j * 1)).length=(i + (n - j)) * 1:=by
   rw [aB,hlt1,<-hnews,hnl,hcl2]
  rw [e1,hr2]
  show (row1.toList.take ((i + (n - j)) * 1) ++ zs ++ _).take ((i + (n - j)) * 1)=_
  rw [aP,aU (by rw [aA]; exact aC hle),hrow1]
  show (cur.toList.take (i * 1) ++ news ++ _).take ((i + (n - j)) * 1)=_
  rw [aU (by rw [aB,hct,hlt1,hnl,hcl2]),hct,hnews]
 ·rw [hW]
  have h1:Went w w.drew (fun b=>b=g):=⟨rfl,rfl,rfl,aL _,fun _ _ _=>rfl⟩
  have h2:=fF w.drew g row1
  have h3:=fF (w.drew.setRow g row1) g row2
  refine ⟨h3.os.trans (h2.os.trans h1.os),h3.tape.trans (h2.tape.trans h1.tape),h3.output.trans (h2.output.trans h1.output),aR h1.size (aR h2.size h3.size),fun b hb hx=>?_⟩
  rw [h3.kept b (by simpa using hb) hx,h2.kept b hb hx]
  rfl
 ·refine kS.set hcur1 ?_
  rw [hW]
  exact kS.set X8.out (fun cur E fz e=>hn cur E fz e)
theorem aIq (xs:List D) (hs:∀ x∈xs,x.size=4) (i j:Nat) (hij:i < j) (hj:j<=xs.length):FnM prog 215 false (.sl true 4 (i6 xs)) [.int .i64 i,.int .i64 j] (fun x' rs=>(∃ u,x'=.lnk 0 u)/\rs=[.sl true 4 (i6 (xs.take i ++ xs.drop j))]) :=
 aI9 4 (fun g n cp i j cs w h1 h2 h3 h4 h5 h6=>aF1 g n cp i j cs w h1 h2 h3 h4 h5 h6) xs hs i j hij hj
theorem aHd (v:List Int) (i j:Nat) (hij:i < j) (hj:j<=v.length):FnM prog 190 false (.sl true 1 (dl iD v)) [.int .i64 i,.int .i64 j] (fun x' rs=>(∃ u,x'=.lnk 0 u)/\rs=[.sl true 1 (dl iD (v.take i ++ v.drop j))]):=by
 have h:=aI9 (P:=prog) (f:=190) 1 (fun g n cp i j cs w h1 h2 h3 h4 h5 h6=>aFz g n cp i j cs w h1 h2 h3 h4 h5 h6) (v.map iD) (fun x hx=>by obtain ⟨n,_,rfl⟩:=cB.1 hx; rfl) i j hij (by simpa using hj)
 rw [<- bU,<-bV,<-bQ] at h
 exact h
theorem n8 {P:Program} {w:World} {t ty e E:TypeId} {i:TypeInfo} (ht:P.underlying t=some (.slice e)) (hi:P.info? e=some i) {g off dn dc:Nat} {cur:Array Value} (hg:gW w g cur E)
  (a:Addr) (sn sc:Nat) (news:List Value) (hl:news.length=aT sn dn * i.size) (hnews:∀ j u,news[j]?=some u->w.cell? (a.add j)=some u) (h1:∀ u∈news,u.oneCell'=true) (hfit:off + news.length<=cur.size) :
  (Builtin.copy_ #[t,t] ty #[.slice (some ⟨g,off,none⟩) dn dc,.slice (some a) sn sc]).run P w=.ok (goInt (aT sn dn)) (w.setRow g (cur.toList.take off ++ news ++ cur.toList.drop (off + news.length)).toArray):=by
 have hf:=run_firstCells_some (P:=P) w i.size (aT sn dn) a sn sc news hl hnews
 have hst:=iI P g off E news 0 cur w hg (by simpa using hfit) h1
 simp only [Nat.add_zero] at hst
 simp [Builtin.copy_,run_underlying ht,sizeOf,typeInfo,hi,Builtin.lenOf,hf,hst]
theorem vQ {P:Program} {ops:Array Oper} {o:Oper} {a:Act} {w:World} {K:Act->World->Prop} {Q:Exit->Act->World->Prop} {E:Prop}
  (hg:o.guard=none) (d x:Operand) (dT sT:TypeId) (hop:o.op=Op.call { callee:=Callee.builtin Builtin.copy,args:=#[d,x],argTypes:=#[dT,sT] })
  (v u:Value) (hd:a.eval d=v) (hx:a.eval x=u) {v':Value} {w':World} (hr:(Builtin.copy_ #[dT,sT] o.type #[v,u]).run P w=.ok v' w') (hK:K (a.put o.dst v') w') :
  if Region.wanted o (yielded ops a.tmps)=true then Oper.wp P o a w K Q else E:=by
 have hw:Region.wanted o (yielded ops a.tmps)=true:=by simp [Region.wanted,hg]
 rw [if_pos hw]
 unfold Oper.wp
 simp [execOp,hop,resolve,invoke,builtin,hd,hx,hr,Result.andThen]
 exact hK
def aIL (w:World) (es:Nat) (a:Option Addr) (n c:Nat) (cs:List Value):Prop :=
 cs.length=n * es/\n<=c/\((c=0)\/∃ g,a=some ⟨g,0,none⟩/\aC0 w g es (c * es) cs)
def yF (w:World) (es:Nat) (a:Option Addr) (c0 n:Nat) (cs:List Value) (v:Value) (w':World):Prop :=
 ∃ g c,v=.slice (some ⟨g,0,none⟩) n c/\n<=c/\aC0 w' g es (c * es) cs/\(w.heap.size<=g\/(c0≠0/\a=some ⟨g,0,none⟩))/\Went w w' (fun b=>c0≠0/\a=some ⟨b,0,none⟩)
theorem aLS:∃ inf,Go.Proofs.Tryz.prog.info? 115=some inf/\inf.size=4/\inf.bytes=48/\inf.zero=some (.agg #[.int .i64 0,.int .i64 0,.int .i64 0,.slice none 0 0]):=⟨_,rfl,rfl,rfl,rfl⟩
theorem sC:Go.Proofs.Tryz.prog.underlying 37=some (.slice 115):=rfl
theorem aOn (a:Option Addr) (n c vc:Nat) (va:Addr) (cs vs:List Value) (w:World) (h:aIL w 4 a n c cs) (hvl:vs.length=4) (hv:∀ j u,vs[j]?=some u->w.cell? (va.add j)=some u) (h1:∀ v∈vs,v.oneCell'=true) (hn:n<=1048576) :
  ∃ v' w',(∀ ty,(Builtin.append_ #[37,37] ty #[.slice a n c,.slice (some va) 1 vc]).run Go.Proofs.Tryz.prog w=.ok v' w')/\yF w 4 a c (n + 1) (cs ++ vs) v' w':=by
 obtain ⟨hl,hc,h⟩:=h
 obtain ⟨inf,hinf,hsize,hbytes,hzero⟩:=aLS
 have hvl':vs.length=1 * inf.size:=by rw [hsize,hvl]
 have hext:∀ (ob:Obj) (X:Nat->Prop),Went w (w.drew.alloc ob) X:=fun ob X=>aX4 (yY w ob) X
 rcases h with rfl|⟨g,rfl,hrow⟩
 ·have h0:n=0:=by omega
  subst h0
  have hcs:cs=[]:=aX (by simpa using hl)
  subst hcs
  refine ⟨_,_,fun ty=>sH (ty:=ty) sC hinf hzero a va 1 vc vs hvl' hv (by omega) (by omega) (by rw [hbytes]; omega),?_⟩
  have hge:=grownCap_ge w 1 0 115
  refine ⟨w.heap.size,_,rfl,hge,⟨⟨_,_,gW.new w.drew _ _,?_,by simp⟩,fun _=>kS.new w.drew _ _⟩,.inl (aL _),hext _ _⟩
  rw [aY,aH,size_zeroCells,hvl]
  show 4 + (grownCap w 1 0 _ - 1) * 4=_
  omega
 ·obtain ⟨⟨cur,E,hcur,hsz,htk⟩,hnm⟩:=hrow
  by_cases hroom:n + 1<=c
  ·have hfit:n * inf.size + vs.length<=cur.size:=by
    rw [hsize,hvl,hsz]; omega
   refine ⟨_,_,fun ty=>n7 (ty:=ty) sC hinf g n c cur hcur va 1 vc vs hvl' hv h1 hroom hfit,?_⟩
   refine ⟨g,c,rfl,hroom,⟨⟨_,E,hcur.set ?_,?_,?_⟩,fun he=>(hnm he).set hcur⟩,.inr ⟨by omega,rfl⟩,?_⟩
   ·simp only [aH,aB,aA,aF,aJ]
    rw [aC (by omega)]; omega
   ·rw [<- hsz]
    simp only [aH,aB,aA,aF]
    have:cur.toList.length=cur.size:=by simp
    rw [aC (by omega)]; omega
   ·have e1:cur.toList.take (n * inf.size)=cs:=by rw [hsize,<-hl]; exact htk
    show (cur.toList.take (n * inf.size) ++ vs ++ _).take (cs ++ vs).length=_
    rw [e1,bA]
   ·have:=fF w g (cur.toList.take (n * inf.size) ++ vs ++ cur.toList.drop (n * inf.size + vs.length)).toArray
    exact ⟨this.os,this.tape,this.output,this.size,fun b hb hx=>this.kept b hb fun e=>hx ⟨by omega,by rw [e]⟩⟩
  ·have hcell0:∀ j u,cs[j]?=some u->w.cell? ((⟨g,0,none⟩:Addr).add j)=some u:=by
    have:=i8.of_row (M:=fun _=>False) (⟨cur,E,hcur,hsz,htk⟩:gN w g _ cs) (fun h=>h)
    rcases this with h8|h8
    ·exact fun j u hu=>by rw [h8] at hu; simp at hu
    ·exact h8.2.2
   refine ⟨_,_,fun ty=>run_append_grow (P:=Go.Proofs.Tryz.prog) w _ ty _ inf _ sC hinf hzero ⟨g,0,none⟩ n c cs (by rw [hsize]; exact hl) hcell0 va 1 vc vs hvl' hv (by omega) (by omega) (by rw [hbytes]; exact growslice_fits (by omega) (by omega)),?_⟩
   have hge:=grownCap_ge w (n + 1) c 115
   refine ⟨w.heap.size,_,rfl,hge,⟨⟨_,_,gW.new w.drew _ _,?_,?_⟩,fun _=>kS.new w.drew _ _⟩,.inl (aL _),hext _ _⟩
   ·rw [aY,aY,aH,aH,size_zeroCells,hvl,hl]
    show n * 4 + 4 + (grownCap w (n + 1) c _ - (n + 1)) * 4=_
    omega
   ·rw [a6,a6]; exact bA
theorem aAo (a:Option Addr) (n c vc:Nat) (va:Addr) (cs vs:List Value) (w:World) (h:aIL w 4 a n c cs) (hvl:vs.length=4) (hv:∀ j u,vs[j]?=some u->w.cell? (va.add j)=some u) (h1:∀ v∈vs,v.oneCell'=true) (hn:n<=1048576) :
  Calls Go.Proofs.Tryz.prog 146 #[.slice a n c,.int .i64 n,.slice (some va) 1 vc] w fun e w'=>∃ v,e=.returned v/\yF w 4 a c (n + 1) (cs ++ vs) v w':=by
 obtain ⟨v',w',hrun,hG⟩:=aOn a n c vc va cs vs w h hvl hv h1 hn
 have hc:=h.2.1
 clear h hv h1
 have mixed:Go.Proofs.Tryz.prog.follows .mixedOrders=true:=rfl
 have hnt:Go.Proofs.Tryz.f146.ntmps=95:=rfl
 have hG':Hid (yF w 4 a c (n + 1) (cs ++ vs) v' w'):=hG
 clear hG
 go_enter Go.Proofs.Tryz.func146,hnt
 cases a with
 | none =>
  go_wp2_with (at_builtin; refine Lib.wpList_append_run _ rfl _ _ _ _ rfl _ _ rfl rfl _ _ (hrun _) ?_)
  all_goals (go_ret; first|exact ⟨v',rfl,hG'.out⟩|(have hx:=hG'.out; rw [‹c=n›] at hx; exact ⟨v',rfl,hx⟩))
 | some ad =>
  obtain ⟨ab,ao,asp⟩:=ad
  go_wp2_with (at_builtin; refine Lib.wpList_append_run _ rfl _ _ _ _ rfl _ _ rfl rfl _ _ (hrun _) ?_)
  all_goals (go_ret; first|exact ⟨v',rfl,hG'.out⟩|(have hx:=hG'.out; rw [‹c=n›] at hx; exact ⟨v',rfl,hx⟩))
theorem aId {cs:List Value} {cur:List Value} (h:cur.take cs.length=cs) {k:Nat} (hk:k<=cs.length):cur.take k=cs.take k:=by
 conv=>rhs; rw [<- h]
 rw [bG,aC hk]
theorem aFc (g n c i vc:Nat) (va:Addr) (cs vs:List Value) (w:World) (hl:cs.length=n * 4) (hc:n<=c) (hrow:aC0 w g 4 (c * 4) cs) (hvl:vs.length=4) (hv:∀ j u,vs[j]?=some u->w.cell? (va.add j)=some u) (h1:∀ v∈vs,v.oneCell'=true) (h1c:∀ v∈cs,v.oneCell'=true) (hn:n<=1048576) (hi:i < n) (hfull:c < n + 1) :
  Calls Go.Proofs.Tryz.prog 146 #[.slice (some ⟨g,0,none⟩) n c,.int .i64 i,.slice (some va) 1 vc] w fun e w'=>∃ v,e=.returned v/\yF w 4 (some ⟨g,0,none⟩) c (n + 1) (cs.take (i * 4) ++ vs ++ cs.drop (i * 4)) v w':=by
 obtain ⟨inf,hinf,hsize,hbytes,hzero⟩:=aLS
 obtain ⟨⟨cur,E,hcur,hsz,htk⟩,hnm⟩:=hrow
 have hfit:cs.length<=cur.toList.length:=by
  have e:cur.toList.length=cur.size:=by simp
  rw [e,hsz,hl]; omega
 have hcell:∀ j u,cs[j]?=some u->w.cell? ⟨g,j,none⟩=some u:=fun j u hu=>by
  rw [hcur.cell,<-Array.getElem?_toList]
  rw [<- htk,List.getElem?_take] at hu
  split at hu
  ·exact hu
  ·cases hu
 have hgl:=hcur.lt
 have hvl':vs.length=aT 1 (n + 1 - i) * inf.size:=by
  rw [hsize,hvl,show aT 1 (n + 1 - i)=1 from aC (by omega)]
 have hva:va.block < w.heap.size:=by
  obtain ⟨u,hu⟩:=dW (show 0 < vs.length by omega)
  have:=block_lt_of_cell (hv 0 u hu)
  rwa [show (va.add 0).block=va.block from by unfold Addr.add; split<;>rfl] at this
 have hkk:(n:Int) + (1:Int) - (i:Int)=((n + 1 - i:Nat):Int):=by omega
 have hik:i + (n + 1 - i)=n + 1:=by omega
 have hold:(Builtin.firstCells inf.size i (.slice (some ⟨g,0,none⟩) i c)).run Go.Proofs.Tryz.prog w.drew=.ok (cs.take (i * 4)).toArray w.drew :=
  run_firstCells_some w.drew inf.size i ⟨g,0,none⟩ i c (cs.take (i * 4)) (by rw [aA,hl,hsize]; omega) (fun j v hj=>by
   rw [Addr.add_lit,Nat.zero_add]
   rw [List.getElem?_take] at hj
   split at hj
   ·exact hcell j v hj
   ·cases hj)
 obtain ⟨G,hG⟩:∃ G,G=grownCap w (n + 1) c 115:=⟨_,rfl⟩
 obtain ⟨N,hN⟩:∃ N,N=w.heap.size:=⟨_,rfl⟩
 have hGn:n + 1<=G:=by rw [hG]; exact grownCap_ge w _ _ _
 obtain ⟨ROW,hROW⟩:∃ ROW:Array Value,ROW=(cs.take (i * 4)).toArray ++ Builtin.zeroCells (Value.agg #[.int .i64 0,.int .i64 0,.int .i64 0,.slice none 0 0]).cells (n + 1 - i) ++ Builtin.zeroCells (Value.agg #[.int .i64 0,.int .i64 0,.int .i64 0,.slice none 0 0]).cells (G - (n + 1)):=⟨_,rfl⟩
 obtain ⟨W1,hW1⟩:∃ W1,W1=w.drew.alloc (.cells ROW 115):=⟨_,rfl⟩
 have hrz:∀ ty,(Builtin.append_ #[37,3] ty #[.slice (some ⟨g,0,none⟩) i c,.int .i64 ((n:Int) + (1:Int) - (i:Int))]).run Go.Proofs.Tryz.prog w=.ok (.slice (some ⟨N,0,none⟩) (n + 1) G) W1:=fun ty=>by
  have h:=Lib.run_append_grow_zeros (P:=Go.Proofs.Tryz.prog) w 37 3 ty 115 inf _ .i64 .i64 sC rfl hinf hzero (some ⟨g,0,none⟩) i c (cs.take (i * 4)) hold (n + 1 - i) (by omega) (by omega) (by omega) (by omega) (by rw [hbytes]; omega) (by rw [hbytes,hik]; exact growslice_fits (by omega) (by omega))
  rw [hik,<-hG,<-hROW,<-hW1,<-hN] at h
  rw [hkk]
  exact h
 have hRl:ROW.size=G * 4:=by
  rw [hROW,aY,aY,aH,size_zeroCells,size_zeroCells,aA,hl,aC (by omega)]
  show i * 4 + (n + 1 - i) * 4 + (G - (n + 1)) * 4=_
  omega
 have hRt:ROW.toList.take (i * 4)=cs.take (i * 4):=by
  rw [hROW,a6,a6,aP]
  exact aU (by rw [aA,hl]; omega)
 have hc1:gW W1 N ROW 115:=by rw [hW1,hN]; exact gW.new w.drew _ _
 have hm1:kS W1 N:=by rw [hW1,hN]; exact kS.new w.drew _ _
 have hx1:kN w W1:=by rw [hW1]; exact yY w _
 obtain ⟨row2,hrow2⟩:∃ row2,row2=(ROW.toList.take (i * 4) ++ vs ++ ROW.toList.drop (i * 4 + vs.length)).toArray:=⟨_,rfl⟩
 obtain ⟨W2,hW2⟩:∃ W2,W2=W1.setRow N row2:=⟨_,rfl⟩
 have hRL:ROW.toList.length=ROW.size:=by simp
 have h2s:row2.size=ROW.size:=by
  rw [hrow2,aH,aB,aB,aA,aF,hvl,hRL,hRl]
  omega
 have hcpA:∀ ty dc,(Builtin.copy_ #[37,37] ty #[.slice (some ⟨N,i * 4,none⟩) (n + 1 - i) dc,.slice (some va) 1 vc]).run Go.Proofs.Tryz.prog W1=.ok (goInt (aT 1 (n + 1 - i))) W2:=fun ty dc=>by
  rw [hW2,hrow2]
  refine n8 sC hinf hc1 va 1 vc vs hvl' (fun j u hu=>?_) h1 (by rw [hvl,hRl]; omega)
  rw [World.cell?_of_block (w:=w) (by rw [show (va.add j).block=va.block from by unfold Addr.add; split<;>rfl]; exact hx1.block _ hva)]
  exact hv j u hu
 have hc2:gW W2 N row2 115:=by rw [hW2]; exact hc1.set h2s
 have hm2:kS W2 N:=by rw [hW2]; exact hm1.set hc1
 have hk2:∀ b,b < w.heap.size->W2.heap[b]?=w.heap[b]?:=fun b hb=>by
  rw [hW2,setRow_other _ _ _ _ (by omega)]
  exact hx1.block b hb
 have hc2d:gW W2.drew N row2 115:=hc2
 obtain ⟨row3,hrow3⟩:∃ row3,row3=(row2.toList.take ((i + 1) * 4) ++ cs.drop (i * 4) ++ row2.toList.drop ((i + 1) * 4 + (cs.drop (i * 4)).length)).toArray:=⟨_,rfl⟩
 obtain ⟨W3,hW3⟩:∃ W3,W3=W2.drew.setRow N row3:=⟨_,rfl⟩
 have hdl:(cs.drop (i * 4)).length=(n - i) * 4:=by rw [aF,hl]; omega
 have hR2L:row2.toList.length=row2.size:=by simp
 have h3s:row3.size=row2.size:=by
  rw [hrow3,aH,aB,aB,aA,aF,aF,hl,hR2L,h2s,hRl]
  omega
 have hmin:aT (n - i) (n + 1 - (i + 1))=n - i:=by
  have:n + 1 - (i + 1)=n - i:=by omega
  rw [this]; exact Nat.min_self _
 have hcpB:∀ ty,(Builtin.copy_ #[37,37] ty #[.slice (some ⟨N,(i + 1) * 4,none⟩) (n + 1 - (i + 1)) (G - (i + 1)),.slice (some ⟨g,i * 4,none⟩) (n - i) (c - i)]).run Go.Proofs.Tryz.prog W2.drew=.ok (goInt (aT (n - i) (n + 1 - (i + 1)))) W3:=fun ty=>by
  rw [hW3,hrow3]
  refine n8 sC hinf hc2d ⟨g,i * 4,none⟩ (n - i) (c - i) (cs.drop (i * 4)) (by rw [hdl,hmin,hsize]) (fun j u hu=>?_) (fun v hv=>h1c v (aN hv)) (by rw [hdl,h2s,hRl]; omega)
  rw [Addr.add_lit]
  rw [List.getElem?_drop] at hu
  show W2.cell? ⟨g,i * 4 + j,none⟩=some u
  rw [World.cell?_of_block (w:=w) (a:=⟨g,i * 4 + j,none⟩) (hk2 g hgl)]
  exact hcell _ u hu
 have hfin:Hid (yF w 4 (some ⟨g,0,none⟩) c (n + 1) (cs.take (i * 4) ++ vs ++ cs.drop (i * 4)) (.slice (some ⟨N,0,none⟩) (n + 1) G) W3):=by
  refine ⟨N,G,rfl,hGn,⟨⟨row3,115,by rw [hW3]; exact hc2d.set h3s,by rw [h3s,h2s,hRl],?_⟩,fun _=>by rw [hW3]; exact kS.set hc2d (fun cur E fz e=>hm2 cur E fz e)⟩,.inl (by omega),?_⟩
  ·have e0:(cs.take (i * 4) ++ vs).length=(i + 1) * 4:=by rw [aB,aA,hl,hvl,aC (by omega)]; omega
   have e2:row2.toList.take ((i + 1) * 4)=cs.take (i * 4) ++ vs:=by
    rw [hrow2,hRt]
    show (cs.take (i * 4) ++ vs ++ _).take ((i + 1) * 4)=_
    exact aU e0
   rw [hrow3,e2]
   show (cs.take (i * 4) ++ vs ++ cs.drop (i * 4) ++ _).take (cs.take (i * 4) ++ vs ++ cs.drop (i * 4)).length=_
   rw [bA]
  ·have hd:=fF W2.drew N row3
   have ha:=fF W1 N row2
   rw [<- hW2] at ha
   rw [<- hW3] at hd
   refine ⟨hd.os.trans (ha.os.trans hx1.os),hd.tape.trans (ha.tape.trans hx1.tape),hd.output.trans (ha.output.trans hx1.output),aR hx1.size (aR ha.size hd.size),fun b hb _=>?_⟩
   rw [hW3,setRow_other _ _ _ _ (by omega)]
   exact hk2 b hb
 have mixed:Go.Proofs.Tryz.prog.follows .mixedOrders=true:=rfl
 have hnt:Go.Proofs.Tryz.f146.ntmps=95:=rfl
 have q1:¬ ((i:Int)=(n:Int)):=by omega
 have q2:(c:Int) < (n:Int) + 1:=by omega
 have q3:¬ (G=i):=by omega
 have q4:¬ (G=i + 1):=by omega
 have q5:¬ (c=i):=by omega
 have q6:i<=n:=by omega
 have q7:i<=c:=by omega
 have hw1:IntKind.i64.wrap ((i:Int) + (1:Int))=(i:Int) + (1:Int):=by rw [IntKind.wrap_i64]; omega
 have hb1:(0:Int)<=(i:Int) + (1:Int):=by omega
 have htn:((i:Int) + (1:Int)).toNat=i + 1:=by omega
 have hb3:(i:Int)<=(n:Int):=by omega
 have X1:Hid (∀ ty,(Builtin.append_ #[37,3] ty #[.slice (some ⟨g,0,none⟩) i c,.int .i64 ((n:Int) + (1:Int) - (i:Int))]).run Go.Proofs.Tryz.prog w=.ok (.slice (some ⟨N,0,none⟩) (n + 1) G) W1):=hrz
 have X2:Hid (∀ ty dc,(Builtin.copy_ #[37,37] ty #[.slice (some ⟨N,i * 4,none⟩) (n + 1 - i) dc,.slice (some va) 1 vc]).run Go.Proofs.Tryz.prog W1=.ok (goInt (aT 1 (n + 1 - i))) W2):=hcpA
 have X3:Hid (∀ ty,(Builtin.copy_ #[37,37] ty #[.slice (some ⟨N,(i + 1) * 4,none⟩) (n + 1 - (i + 1)) (G - (i + 1)),.slice (some ⟨g,i * 4,none⟩) (n - i) (c - i)]).run Go.Proofs.Tryz.prog W2.drew=.ok (goInt (aT (n - i) (n + 1 - (i + 1)))) W3):=hcpB
 clear hcpB X2 hrz hold hrow3 hrow2 hW1 hW2 hW3 hROW hRl hRt hc1 hm1 hx1 hRL h2s hc2 hm2 hk2 hc2d hdl hR2L h3s hmin hv h1 h1c hcell hcur hnm htk hsz hfit hva hvl hvl' hl hkk hik hG hN hgl hinf hsize hbytes hzero
 go_enter Go.Proofs.Tryz.func146,hnt
 go_wp2_with (first
  |(at_builtin; refine Lib.wpList_append_run _ rfl _ _ _ _ rfl _ _ rfl rfl _ _ (X1.out _) ?_)
  | fail)
 go_region_law_o (refine vQ rfl _ _ 37 37 rfl _ _ (by simp [Act.eval,Act.put]) (by simp [Act.eval,Act.put]) (X3.out _) ?_)
 go_wp2
 go_ret
 exact ⟨_,rfl,hfin.out⟩
theorem z7 {P:Program} (w:World) (tS tR e:TypeId) (ht:P.underlying tS=some (.slice e)) (size:Nat) (hz:∀ w,(Go.sizeOf e).run P w=.ok size w)
  (a b:Addr) (la ca lb cb:Nat) (hne:a.block≠b.block) (tA tB:TypeId) (kA kB:Nat)
  (hsa:w.shape? a.block=some (tA,kA)) (hkA:kA≠0) (hsb:w.shape? b.block=some (tB,kB))
  (hfb:w.frozen? b=false) (hfe:w.frozen? { block:=b.block,off:=kB }=false) :
  (Extern.SlicesOverlaps.overlaps #[tS,tS] #[tR] #[.slice (some a) la ca,.slice (some b) lb cb]).run P w=.ok (.bool false) w:=by
 have hnb:(a.block != b.block)=true:=by simpa using hne
 have hnb':(a.block == b.block)=false:=by simpa using hne
 change Sem.run P (α := Value) (underlying tS >>= _) w = _
 by_cases h0:la=0\/lb=0\/size=0
 ·simp [run_underlying ht,hz,h0]
 ·cases kA with
  | zero=>exact absurd rfl hkA
  | succ kA =>
   cases h1:w.frozen? a<;>cases h2:w.frozen? { block:=a.block,off:=kA + 1 } <;>
    simp [run_underlying ht,hz,h0,hnb,hnb',frozen,noView,viewAt,mayBeOne,stringish,shape,Sem.run,hsa,hsb,hfb,hfe,h1,h2]
theorem aAB {w:World} {g:Nat} {cur:Array Value} {E:TypeId} (h:gW w g cur E) (hn:kS w g) (k:Nat):w.frozen? ⟨g,k,none⟩=false:=by
 obtain ⟨fz,h1,_⟩:=h
 have:=hn _ _ _ h1
 obtain ⟨lo,hi⟩:=fz
 simp only [World.frozen?,h1,Bool.and_eq_false_iff,decide_eq_false_iff_not]
 simp only at this
 omega
theorem aHR {w:World} {g:Nat} {cur:Array Value} {E:TypeId} (h:gW w g cur E):w.shape? g=some (E,cur.size):=by
 obtain ⟨fz,h1,_⟩:=h
 simp [World.shape?,h1]
theorem aCY {w:World} {a:Addr} {v:Value} (h:w.cell? a=some v):∃ t k,w.shape? a.block=some (t,k)/\k≠0:=by
 unfold World.cell? at h
 unfold World.shape?
 split at h
 ·rename_i c t fz hb
  split at h
  ·cases h
  ·refine ⟨t,c.size,rfl,fun e=>?_⟩
   have:=(Array.getElem?_eq_some_iff.1 h).1
   omega
 ·cases h
theorem aDh (g n c i vc:Nat) (va:Addr) (cs vs:List Value) (w:World) (hl:cs.length=n * 4) (hrow:aC0 w g 4 (c * 4) cs) (hvl:vs.length=4) (hv:∀ j u,vs[j]?=some u->w.cell? (va.add j)=some u) (hvg:va.block≠g) (h1:∀ v∈vs,v.oneCell'=true) (h1c:∀ v∈cs,v.oneCell'=true) (hn:n<=1048576) (hi:i < n) (hroom:n + 1<=c) :
  Calls Go.Proofs.Tryz.prog 146 #[.slice (some ⟨g,0,none⟩) n c,.int .i64 i,.slice (some va) 1 vc] w fun e w'=>∃ v,e=.returned v/\yF w 4 (some ⟨g,0,none⟩) c (n + 1) (cs.take (i * 4) ++ vs ++ cs.drop (i * 4)) v w':=by
 obtain ⟨inf,hinf,hsize,hbytes,hzero⟩:=aLS
 obtain ⟨⟨cur,E,hcur,hsz,htk⟩,hnm⟩:=hrow
 have hnm:=hnm (by decide)
 have hcl:cur.toList.length=cur.size:=by simp
 have hblk:∀ j,(va.add j).block=va.block:=fun j=>by unfold Addr.add; split<;>rfl
 have hvl':vs.length=aT 1 (n + 1 - i) * inf.size:=by
  rw [hsize,hvl,show aT 1 (n + 1 - i)=1 from aC (by omega)]
 obtain ⟨tA,kA,hsa,hkA⟩:∃ t k,w.shape? va.block=some (t,k)/\k≠0:=by
  obtain ⟨u,hu⟩:=dW (show 0 < vs.length by omega)
  have:=aCY (hv 0 u hu)
  rwa [hblk] at this
 have hov:∀ lb cb,(callFunc 187 #[.slice (some va) 1 vc,.slice (some ⟨g,(i + 1) * 4,none⟩) lb cb]).run Go.Proofs.Tryz.prog w=.ok (.value (.bool false)) w:=fun lb cb=>by
  rw [run_callFunc_extern (by rfl:Go.Proofs.Tryz.prog.funcs[187]?=some Go.Proofs.Tryz.f187) (by kernel_rfl) (by kernel_rfl) (by kernel_rfl) (e:=Extern.SlicesOverlaps.overlaps #[37,37] #[4]) (by kernel_rfl),
   z7 w 37 4 115 sC 4 (fun w=>by simp [sizeOf,typeInfo,hinf,hsize]) va ⟨g,(i + 1) * 4,none⟩ 1 vc lb cb hvg tA E kA cur.size hsa hkA (aHR hcur) (aAB hcur hnm _) (aAB hcur hnm _)]
  rfl
 have hcurd:gW w.drew g cur E:=hcur
 obtain ⟨row1,hrow1⟩:∃ row1,row1=(cur.toList.take ((i + 1) * 4) ++ cs.drop (i * 4) ++ cur.toList.drop ((i + 1) * 4 + (cs.drop (i * 4)).length)).toArray:=⟨_,rfl⟩
 obtain ⟨W1,hW1⟩:∃ W1,W1=w.drew.setRow g row1:=⟨_,rfl⟩
 have hdl:(cs.drop (i * 4)).length=(n - i) * 4:=by rw [aF,hl]; omega
 have h1s:row1.size=cur.size:=by
  rw [hrow1,aH,aB,aB,aA,aF,aF,hl,hcl,hsz]
  omega
 have hmin:aT (n + 1 - i) (n + 1 - (i + 1))=n - i:=by
  have:n + 1 - (i + 1)=n - i:=by omega
  rw [this]; exact Nat.min_eq_right (by omega)
 have hcpB:∀ ty,(Builtin.copy_ #[37,37] ty #[.slice (some ⟨g,(i + 1) * 4,none⟩) (n + 1 - (i + 1)) (c - (i + 1)),.slice (some ⟨g,i * 4,none⟩) (n + 1 - i) (c - i)]).run Go.Proofs.Tryz.prog w.drew=.ok (goInt (aT (n + 1 - i) (n + 1 - (i + 1)))) W1:=fun ty=>by
  rw [hW1,hrow1]
  refine n8 sC hinf hcurd ⟨g,i * 4,none⟩ (n + 1 - i) (c - i) (cs.drop (i * 4)) (by rw [hdl,hmin,hsize]) (fun j u hu=>?_) (fun v hv=>h1c v (aN hv)) (by rw [hdl,hsz]; omega)
  rw [Addr.add_lit,hcurd.cell,<-Array.getElem?_toList]
  rw [List.getElem?_drop,<-htk,List.getElem?_take] at hu
  split at hu
  ·exact hu
  ·cases hu
 have hc1:gW W1 g row1 E:=by rw [hW1]; exact hcurd.set h1s
 have hm1:kS W1 g:=by rw [hW1]; exact kS.set hcurd (fun cur E fz e=>hnm cur E fz e)
 have hR1L:row1.toList.length=row1.size:=by simp
 obtain ⟨row2,hrow2⟩:∃ row2,row2=(row1.toList.take (i * 4) ++ vs ++ row1.toList.drop (i * 4 + vs.length)).toArray:=⟨_,rfl⟩
 obtain ⟨W2,hW2⟩:∃ W2,W2=W1.setRow g row2:=⟨_,rfl⟩
 have h2s:row2.size=row1.size:=by
  rw [hrow2,aH,aB,aB,aA,aF,hvl,hR1L,h1s,hsz]
  omega
 have hcpA:∀ ty dc,(Builtin.copy_ #[37,37] ty #[.slice (some ⟨g,i * 4,none⟩) (n + 1 - i) dc,.slice (some va) 1 vc]).run Go.Proofs.Tryz.prog W1=.ok (goInt (aT 1 (n + 1 - i))) W2:=fun ty dc=>by
  rw [hW2,hrow2]
  refine n8 sC hinf hc1 va 1 vc vs hvl' (fun j u hu=>?_) h1 (by rw [hvl,h1s,hsz]; omega)
  rw [World.cell?_of_block (w:=w) (by rw [hblk,hW1,setRow_other _ _ _ _ hvg]; rfl)]
  exact hv j u hu
 have hfin:Hid (yF w 4 (some ⟨g,0,none⟩) c (n + 1) (cs.take (i * 4) ++ vs ++ cs.drop (i * 4)) (.slice (some ⟨g,0,none⟩) (n + 1) c) W2):=by
  refine ⟨g,c,rfl,hroom,⟨⟨row2,E,by rw [hW2]; exact hc1.set h2s,by rw [h2s,h1s,hsz],?_⟩,fun _=>by rw [hW2]; exact hm1.set hc1⟩,.inr ⟨by omega,rfl⟩,?_⟩
  ·have ht:cur.toList.take (i * 4)=cs.take (i * 4):=aId htk (by rw [hl]; omega)
   have e1:row1.toList.take (i * 4)=cs.take (i * 4):=by
    rw [hrow1]
    show (cur.toList.take ((i + 1) * 4) ++ cs.drop (i * 4) ++ _).take (i * 4)=_
    rw [aP,List.take_append_of_le_length (by rw [aA,hcl,hsz]; omega),bG,aC (by omega),ht]
   have e2:(row1.toList.drop (i * 4 + vs.length)).take ((n - i) * 4)=cs.drop (i * 4):=by
    rw [hrow1,hvl]
    show ((cur.toList.take ((i + 1) * 4) ++ cs.drop (i * 4) ++ _).drop (i * 4 + 4)).take ((n - i) * 4)=_
    rw [aP,show i * 4 + 4=(i + 1) * 4 by omega,List.drop_left' (by rw [aA,hcl,hsz]; omega)]
    exact aU hdl
   have hlt:(cs.take (i * 4)).length=i * 4:=by rw [aA,hl]; omega
   rw [hrow2,e1]
   show (cs.take (i * 4) ++ vs ++ row1.toList.drop (i * 4 + vs.length)).take (cs.take (i * 4) ++ vs ++ cs.drop (i * 4)).length=_
   have el:(cs.take (i * 4) ++ vs ++ cs.drop (i * 4)).length=(cs.take (i * 4) ++ vs).length + (n - i) * 4:=by rw [aB,hdl]
   rw [el,List.take_append,List.take_of_length_le (Nat.le_add_right _ _),Nat.add_sub_cancel_left,e2]
  ·have hd:=fF w.drew g row1
   have ha:=fF W1 g row2
   rw [<- hW1] at hd
   rw [<- hW2] at ha
   refine ⟨ha.os.trans hd.os,ha.tape.trans hd.tape,ha.output.trans hd.output,aR hd.size ha.size,fun b hb hx=>?_⟩
   have hbg:b≠g:=fun e=>hx ⟨by omega,by rw [e]⟩
   rw [hW2,setRow_other _ _ _ _ hbg,hW1,setRow_other _ _ _ _ hbg]
   rfl
 have mixed:Go.Proofs.Tryz.prog.follows .mixedOrders=true:=rfl
 have hnt:Go.Proofs.Tryz.f146.ntmps=95:=rfl
 have q1:¬ ((i:Int)=(n:Int)):=by omega
 have q2:¬ ((c:Int) < (n:Int) + 1):=by omega
 have q3:¬ (c=n):=by omega
 have q4:¬ (c=i + 1):=by omega
 have q5:¬ (c=i):=by omega
 have q6:i<=n:=by omega
 have q7:i<=c:=by omega
 have hw1:IntKind.i64.wrap ((i:Int) + (1:Int))=(i:Int) + (1:Int):=by rw [IntKind.wrap_i64]; omega
 have hw2:IntKind.i64.wrap ((n:Int) + (1:Int))=(n:Int) + (1:Int):=by rw [IntKind.wrap_i64]; omega
 have hb1:(0:Int)<=(i:Int) + (1:Int):=by omega
 have hb2:(0:Int)<=(n:Int) + (1:Int):=by omega
 have htn:((i:Int) + (1:Int)).toNat=i + 1:=by omega
 have htn2:((n:Int) + (1:Int)).toNat=n + 1:=by omega
 have hb3:(i:Int)<=(n:Int):=by omega
 have hb4:(n:Int) + 1<=(c:Int):=by omega
 have hb5:(i:Int) + 1<=(n:Int) + 1:=by omega
 have hb6:(i:Int)<=(n:Int) + 1:=by omega
 have X3:Hid (∀ ty,(Builtin.copy_ #[37,37] ty #[.slice (some ⟨g,(i + 1) * 4,none⟩) (n + 1 - (i + 1)) (c - (i + 1)),.slice (some ⟨g,i * 4,none⟩) (n + 1 - i) (c - i)]).run Go.Proofs.Tryz.prog w.drew=.ok (goInt (aT (n + 1 - i) (n + 1 - (i + 1)))) W1):=hcpB
 clear hcpB hrow1 hrow2 hW1 hW2 hc1 hm1 h2s h1s hcurd hdl hR1L hmin hv h1 h1c hcur hnm htk hsz hvl hvl' hl hinf hsize hbytes hzero hcl hblk hsa hkA hvg
 go_enter Go.Proofs.Tryz.func146,hnt
 go_wp2_with (simp only [hov])
 go_region_law_o (refine vQ rfl _ _ 37 37 rfl _ _ (by simp [Act.eval,Act.put]) (by simp [Act.eval,Act.put]) (X3.out _) ?_)
 go_wp2
 go_ret
 exact ⟨_,rfl,hfin.out⟩
theorem aGX (a:Option Addr) (n c i vc:Nat) (va:Addr) (cs vs:List Value) (w:World) (h:aIL w 4 a n c cs) (hvl:vs.length=4) (hv:∀ j u,vs[j]?=some u->w.cell? (va.add j)=some u) (hvg:a≠some ⟨va.block,0,none⟩) (h1:∀ v∈vs,v.oneCell'=true) (h1c:∀ v∈cs,v.oneCell'=true) (hn:n<=1048576) (hi:i<=n) :
  Calls Go.Proofs.Tryz.prog 146 #[.slice a n c,.int .i64 i,.slice (some va) 1 vc] w fun e w'=>∃ v,e=.returned v/\yF w 4 a c (n + 1) (cs.take (i * 4) ++ vs ++ cs.drop (i * 4)) v w':=by
 by_cases hin:i=n
 ·subst hin
  have h2:=aAo a i c vc va cs vs w h hvl hv h1 hn
  rw [<- h.1,bB,bL,bE]
  exact h2
 ·obtain ⟨hl,hc,h⟩:=h
  rcases h with rfl|⟨g,rfl,hrow⟩
  ·omega
  ·by_cases hroom:n + 1<=c
   ·exact aDh g n c i vc va cs vs w hl hrow hvl hv (fun e=>hvg (by rw [e])) h1 h1c hn (by omega) hroom
   ·exact aFc g n c i vc va cs vs w hl hc hrow hvl hv h1 h1c hn (by omega) (by omega)
theorem aBD (xs:List D) (y:D) (hs:∀ x∈xs,x.size=4) (hy:y.size=4) (i:Nat) (hi:i<=xs.length) (hn:xs.length<=1048576) :
  FnM prog 146 false (.sl true 4 (i6 xs)) [.int .i64 i,.sl false 4 (.cons y .nil)] (fun x' rs=>(∃ u,x'=.lnk 0 u)/\rs=[.sl true 4 (i6 (xs.take i ++ y :: xs.drop i))]):=by
 intro M oc vs w hM hob hnd hlt hG hr
 obtain ⟨_,us1,f1,f2,rfl,e0,⟨rfl,rfl⟩,cv,us2,f3,f4,rfl,e1,hsv,rfl,rfl⟩:=hr
 have e1':f3=[]:=by
  rw [e1] at e0
  simpa using e0.symm
 subst e1'
 obtain ⟨_,av,vc,dv,fpv,rfl,hvc,hv3,hv4⟩:=hsv
 simp only [bH,if_false] at hv4
 obtain ⟨rfl,_,hv5⟩:=hv4
 obtain ⟨y1,y2,p1,p2,rfl,e2,hyr,rfl,rfl⟩:=hv3
 have e2':p1=[]:=by simpa using e2.symm
 subst e2'
 rw [bE] at hv5
 have hyl:y1.length=4:=by rw [dH _ _ _ hyr,hy]
 have hy1:=oC _ _ _ hyr
 rcases hv5 with hv5|⟨va,rfl,hH⟩
 ·exact absurd hv5 (by simp [D.len])
 rcases hH with hH|⟨hvb,hvM,hvcell⟩
 ·rw [hH] at hyl; simp at hyl
 obtain ⟨cs0,hrep,hv⟩:=hob
 obtain ⟨hL,a,c,ds,fps,rfl,hc,h3,h4⟩:=hrep
 rw [eN] at hc hv
 simp only [if_true] at h4
 have hone:=oC _ _ _ h3
 have hdl:ds.length=xs.length * 4:=by rw [dH _ _ _ h3,jC _ hs]
 have hv':mkV false oc=.slice a xs.length c:=by
  show oc.v=_
  rw [hv]; rfl
 rw [hv']
 have hO:aIL w 4 a xs.length c ds:=⟨hdl,hc,h4.imp (fun h=>h.1) fun ⟨g,h1,h2,_⟩=>⟨g,h1,h2⟩⟩
 have hag:∀ b,c≠0/\a=some ⟨b,0,none⟩->oc.fp=b :: fps:=fun b hb=>by
  rcases h4 with ⟨h,_⟩|⟨g,h1,_,h2⟩
  ·exact absurd h hb.1
  ·have h3:=hb.2
   rw [h1] at h3
   injection h3 with h3
   injection h3 with h3
   rw [h2,<-h3]
 have hfpo:∀ b∈fps,b∈oc.fp:=fun b hb=>by
  rcases h4 with ⟨_,h,_⟩|⟨g,_,_,h2⟩
  ·rw [h] at hb; cases hb
  ·rw [h2]; simp [hb]
 have hfpn:fps.Nodup:=by
  rcases h4 with ⟨_,h,_⟩|⟨g,_,_,h2⟩
  ·rw [h]; exact List.nodup_nil
  ·rw [h2] at hnd; exact (aM.1 hnd).2
 have h3':=h3
 rw [<- bC i xs] at h3'
 obtain ⟨c1,c2,q1,q2,ed,ef,r1,r2⟩:=(fC _ _ _ _).1 h3'
 have l1:c1.length=i * 4:=by
  rw [dH _ _ _ r1,jC _ (fun y hy=>hs y (aV hy)),aA,aC (by omega)]
 have t1:ds.take (i * 4)=c1:=by rw [ed,<-l1,bA]
 have t2:ds.drop (i * 4)=c2:=by rw [ed,<-l1,b8]
 have hcall:Calls Go.Proofs.Tryz.prog 146 #[.slice a xs.length c,.int .i64 i,.slice (some va) 1 vc] w fun e w'=>∃ v,e=.returned v/\yF w 4 a c (xs.length + 1) (c1 ++ y1 ++ c2) v w':=by
  rw [<- t1,<-t2]
  by_cases hin:i=xs.length
  ·have h2:=aAo a xs.length c vc va ds y1 w hO hyl hvcell hy1 hn
   rw [hin,<-hdl,bB,bL,bE]
   exact h2
  ·refine aGX a xs.length c i vc va ds y1 w hO hyl hvcell (fun h=>hvM (.inr ?_)) hy1 hone hn hi
   rw [hag va.block ⟨by omega,h⟩]; simp
 refine hcall.mono ?_
 rintro e w' ⟨v,rfl,g,c',rfl,k1,k2,k3,k4⟩
 have hgn:g ∉ fps:=fun h=>by
  rcases k3 with k3|k3
  ·have:=(hlt g (hfpo g h)).1; omega
  ·rw [hag g k3] at hnd; exact (aM.1 hnd).1 h
 have hsub:∀ b∈g :: fps,(b∈oc.fp\/w.heap.size<=b):=fun b hb=>by
  rcases aS.1 hb with rfl|hb
  ·rcases k3 with k3|k3
   ·exact .inr k3
   ·rw [hag b k3]; exact .inl (by simp)
  ·exact .inl (hfpo b hb)
 have hgw:g < w'.heap.size:=k2.lt
 have keep:∀ b,b < w.heap.size->(b∈fps\/¬ (M b\/b∈oc.fp))->w'.heap[b]?=w.heap[b]?:=fun b hb hx=>by
  refine k4.kept b hb fun e=>?_
  have hfp:=hag b e
  rcases hx with hx|hx
  ·rw [hfp] at hnd; exact (aM.1 hnd).1 hx
  ·exact hx (.inr (by rw [hfp]; simp))
 have hMs:∀ b,b < w.heap.size->(M b\/b∈[] ++ (g :: fps))->(M b\/b∈oc.fp):=fun b hb h=>by
  rcases h with h|h
  ·exact .inl h
  ·rcases hsub b (by simpa using h) with h|h
   ·exact .inr h
   ·omega
 have frame:∀ (q:D) (cs:List Value) (p:List Nat),(∀ b∈p,b∈fps)->q.rep w (fun b=>M b\/b∈oc.fp) cs p->q.rep w' (fun b=>M b\/b∈[] ++ (g :: fps)) cs p:=fun q cs p hp hq =>
  dZ k4.size hMs _ _ _ (fun b hb hx=>keep b hb (hx.imp (hp b) id)) hq
 have hq1:∀ b∈q1,b∈fps:=fun b hb=>by rw [ef]; simp [hb]
 have hq2:∀ b∈q2,b∈fps:=fun b hb=>by rw [ef]; simp [hb]
 have hl':(xs.take i ++ y :: xs.drop i).length=xs.length + 1:=by simp; omega
 refine ⟨.lnk 0 oc.v,_,[.slice (some ⟨g,0,none⟩) (xs.length + 1) c'],[],g :: fps,rfl,⟨⟨_,rfl⟩,rfl⟩,⟨[oc.v],⟨rfl,by rw [hv]; rfl,rfl⟩,rfl⟩,?_,?_,fun b hb=>?_,?_⟩
 ·refine ⟨[.slice (some ⟨g,0,none⟩) (xs.length + 1) c'],[],g :: fps,[],rfl,by simp,⟨(iJ _).2 fun x hx=>?_,some ⟨g,0,none⟩,c',c1 ++ (y1 ++ c2),fps,by rw [eN,hl'],by rw [eN,hl']; exact k1,?_,?_⟩,rfl,rfl⟩
  ·rcases bD.1 hx with hx|hx
   ·exact hs x (aV hx)
   ·rcases aS.1 hx with rfl|hx
    ·exact hy
    ·exact hs x (aN hx)
  ·refine (fC _ _ _ _).2 ⟨c1,y1 ++ c2,q1,q2,rfl,ef,frame _ _ _ hq1 r1,⟨y1,c2,[],q2,rfl,rfl,frame _ _ _ (fun _ h=>by cases h) hyr,frame _ _ _ hq2 r2⟩⟩
  ·simp only [if_true]
   exact .inr ⟨g,rfl,by rw [<- aP]; exact k2,rfl⟩
 ·simpa using aM.2 ⟨hgn,hfpn⟩
 ·have hb':b∈g :: fps:=by simpa using hb
  refine ⟨hsub b hb',?_⟩
  rcases aS.1 hb' with rfl|h
  ·exact hgw
  ·have:=(hlt b (hfpo b h)).1
   have:=k4.size
   omega
 ·exact ⟨k4.os,k4.tape,k4.output,k4.size,fun b hb hx=>k4.kept b hb fun e=>hx (by rw [hag b e]; simp)⟩
end Go.Pe.Tryz
namespace Go.Pe.Tryz
open Go.Proofs.Tryz
theorem jW {n a b:Int}:c6 n a b=true↔a<=n/\n<=b:=by
 simp [c6]
def App.p (x:App) (da dh:D):D:=.st (.cons (.int .i64 x.i) (.cons (.int .i64 x.q) (.cons (.int .i64 x.d) (.cons da (.cons dh (.cons (.int .i64 x.s) .nil))))))
def App.o (x:App):D:=x.p (.sl true 1 (dl iD x.a)) (.sl true 1 (dl iD x.h))
theorem aK3 {α:Type} {xs:List α} {i:Nat} {r:α} (hr:xs[i]?=some r):xs.take (i + 1)=xs.take i ++ [r]:=by
 have hi:=cQ hr
 rw [List.take_succ_eq_append_getElem hi]
 rw [List.getElem?_eq_getElem hi] at hr
 injection hr with hr
 rw [hr]
theorem App.o_unown (x:App):x.o.unown=x.d':=by simp [App.o,App.p,App.d',D.unown,dS]
theorem App.o_own (x:App):x.o.allOwn=true:=by simp [App.o,App.p,D.allOwn,mG uK]
theorem App.o_noOwn (x:App):x.o.noOwn=false:=by simp [App.o,App.p,D.noOwn]
theorem App.o_isV (x:App):x.o.isV=true:=rfl
theorem App.o_size (x:App):x.o.size=6:=rfl
theorem aJ3 (v:List Int) (hlen:v.length<=1048576):Fn prog 102 [.sl false 1 (dl iD v)] (fun rs=>rs=[.sl true 1 (dl iD v)]):=by
 refine cW aRh [] ?_
 dsimp only [aRh,aUL,rF,cS,cE,cR,c8]
 try simp only [wQ]
 simp only [↓wA,↓wC,wB,cD,reduceIte,reduceCtorEq]
 refine aHG (fun h=>?_) ?_
 ·rw [cP] at h
  have e:v=[]:=aO.1 h
  subst e
  simp only [↓wA,↓wC,wB,cD,reduceIte,reduceCtorEq]
  refine l0 1 ?_
  rfl
 ·simp only [cP,↓wA,↓wC,wB,reduceIte,reduceCtorEq]
  refine cO ⟨by omega,by omega⟩ ?_
  simp only [↓wA,↓wC,wB,cU,cT,cD,cF,aYq,reduceIte,reduceCtorEq,aD,aYr]
theorem aFB (a:Int):Fn prog 258 [.int .i64 a] (fun rs=>rs=[.bool false]):=by
 refine cW aRk [] ?_
 dsimp only [aRk,aVf,rF,cS,cE,cR,c8]
 try simp only [wQ]
 simp only [↓wA,↓wC,wB,cD,reduceIte,reduceCtorEq]
theorem oP (a b:Int):Fn prog 238 [.int .i64 a,.int .i64 b] (fun rs=>rs=[.bool (decide (a < b))]):=by
 have h1:=aFB a
 have h2:=aFB b
 refine cW aRJ [] ?_
 dsimp only [aRJ,aVz,rF,cS,cE,cR,c8]
 try simp only [wQ]
 repeat' (first|(simp only [↓wA,↓wC,wB,cD,cF,reduceIte,reduceCtorEq])|(refine cJ (h1) rfl rfl ?_)|(refine cL (h1) rfl rfl ?_)|(refine cJ (h2) rfl rfl ?_)|(refine cL (h2) rfl rfl ?_)|((first|apply cH|apply cI|apply cG)<;>intro h<;>try simp only [h]))
def aEX (n:Nat):Int:=[0,1,2,2,3,3,3,3].getD n 0
theorem aLW (n:Nat) (h:n<=7):Fn prog 242 [.int .u64 n] (fun rs=>rs=[.int .i64 (aEX n)]):=by
 have h1:decide ((4294967296:Int)<=(n:Int))=false:=decide_eq_false (by omega)
 have h2:decide ((65536:Int)<=(n:Int))=false:=decide_eq_false (by omega)
 have h3:decide ((256:Int)<=(n:Int))=false:=decide_eq_false (by omega)
 have h8:n=0\/n=1\/n=2\/n=3\/n=4\/n=5\/n=6\/n=7:=by omega
 refine cW aQ0 [] ?_
 dsimp only [aQ0,aUM,rF,cS,cE,cR,c8]
 try simp only [wQ]
 repeat' (first|(simp only [cK,h1,h2,h3,↓wA,↓wC,wB,cD,reduceIte,reduceCtorEq])|(with_reducible refine cM ?_ ?_; focus (simp only [dX]; omega))|((first|apply cH|apply cI|apply cG)<;>intro h<;>try simp only [h]))
 rcases h8 with rfl|rfl|rfl|rfl|rfl|rfl|rfl|rfl
 all_goals
  refine cO (by decide) ?_
  refine ⟨_,rfl,?_⟩
  refine cM (by simp only [dX]; decide) ?_
  simp only [↓wA]
  refine cM (by simp only [dX]; decide) ?_
  simp only [↓wA]
  rfl
def pos (p:Int):List Int->Nat
 | []=>0
 | a :: t=>if a < p then pos p t + 1 else 0
def j6 (p:Int) (v:List Int):List Int:=v.take (pos p v) ++ p :: v.drop (pos p v)
theorem aEy {p:Int}:∀ (v:List Int) (j:Nat),j<=v.length->(∀ m x,m < j->v[m]?=some x->x < p)->(∀ x,v[j]?=some x->¬ x < p)->pos p v=j
 | [],j,h,_,_=>by
  simp at h
  subst h
  rfl
 | a :: t,0,_,_,h3=>by
  rw [pos,if_neg (h3 a rfl)]
 | a :: t,j + 1,h,h2,h3=>by
  rw [pos,if_pos (h2 0 a (by omega) rfl),aEy t j (by simpa using h) (fun m x hm hx=>h2 (m + 1) x (by omega) (by simpa using hx)) (fun x hx=>h3 x (by simpa using hx))]
def aDH (v:List Int):Prop:=∀ j a b,v[j]?=some a->v[j + 1]?=some b->a < b
theorem aCJ {v:List Int} (h:aDH v):∀ (k m:Nat) (a b:Int),m < k->v[m]?=some a->v[k]?=some b->a < b
 | 0,m,a,b,hm,_,_=>by omega
 | k + 1,m,a,b,hm,ha,hb=>by
  by_cases e:m=k
  ·subst e; exact h m a b ha hb
  ·obtain ⟨c,hc⟩:=dW (show k < v.length by have:=cQ hb; omega)
   have h1:=aCJ h k m a c (by omega) ha hc
   have h2:=h k c b hc hb
   omega
def mv (p:Int) (v:List Int) (j:Nat):List Int:=v.take j ++ p :: v.drop j
theorem aSf {p:Int} {v:List Int} {j:Nat} (h:j<=v.length):(mv p v j).length=v.length + 1:=by simp [mv]; omega
theorem aWP {p:Int} {v:List Int}:mv p v v.length=v ++ [p]:=by simp [mv]
theorem aUz {p:Int} {v:List Int} {j:Nat} (h:j<=v.length):(mv p v j)[j]?=some p:=by
 rw [mv,List.getElem?_append_right (by simp; omega),aA,aC h,a8]; rfl
theorem aWg {p x:Int} {v:List Int} {k:Nat} (h:v[k]?=some x):(mv p v (k + 1))[k]?=some x:=by
 have hk:=cQ h
 rw [mv,List.getElem?_append_left (by simp; omega),List.getElem?_take_of_lt (by omega)]
 exact h
theorem aO0 {p x:Int} {v:List Int} {k:Nat} (h:v[k]?=some x):((mv p v (k + 1)).set (k + 1) x).set k p=mv p v k:=by
 have hk:=cQ h
 rw [mv,aK3 h,mv,aJM h,aP]
 have hl:(v.take k).length=k:=by simp; omega
 rw [aZ _ _ (by omega),hl,show k + 1 - k=1 by omega,aZ _ _ (by omega),hl,a8]
 rfl
theorem aIm (p:Int) (v:List Int) (hr:aDH v) (hp:p ∉ v) (hlen:v.length<=6):FnM prog 232 false (.sl true 1 (dl iD (v ++ [p]))) [.int .i64 0,.int .i64 (v.length + 1)] (fun x' rs=>x'=.sl true 1 (dl iD (j6 p v))/\rs=[]):=by
 have hput:∀ j,j<=v.length->(∀ m x,m < j->v[m]?=some x->x < p)->(∀ x,v[j]?=some x->¬ x < p)->mv p v j=j6 p v:=fun j h1 h2 h3=>by rw [j6,aEy v j h1 h2 h3,mv]
 have hnp:∀ {m x:_},v[m]?=some x->x≠p:=fun {m x} h e=>hp (e ▸ aK h)
 refine lH aQT [] ?_
 dsimp only [aQT,aWi,rF,cS,cE,cR,c8]
 try simp only [wQ]
 simp only [↓wA,↓wC,wB,cD,cF,reduceIte,reduceCtorEq]
 refine cM (by simp only [dX]; omega) ?_
 refine eK (fun i:Nat=>⟨[(0,.own 0),(1,.d (.int .i64 0)),(2,.d (.int .i64 (v.length + 1))),(6,.d (.int .i64 i))],[.val (.sl true 1 (dl iD (if i<=v.length then v ++ [p] else j6 p v)))]⟩) (fun i=>1<=i/\i<=v.length + 1) (fun i=>v.length + 1 - i) 1 ?_ ⟨by omega,by omega⟩ ?_
 ·have e:(if 1<=v.length then v ++ [p] else j6 p v)=v ++ [p]:=by
   split
   ·rfl
   ·rename_i h
    have h0:v.length=0:=by omega
    have e:v=[]:=aO.1 h0
    subst e
    rfl
  rw [e]
  exact (cV _ rfl ⟨⟨rfl,rfl⟩,⟨rfl,rfl⟩,⟨rfl,rfl⟩,⟨rfl,rfl⟩,trivial⟩)
 rintro i ⟨hi1,hi2⟩
 by_cases hin:i=v.length + 1
 ·subst hin
  have hd:decide (((v.length + 1:Nat):Int) < (v.length:Int) + 1)=false:=decide_eq_false (by omega)
  rw [if_neg (by omega)]
  simp only [hd,↓wA,↓wC,wB,cD,reduceIte,reduceCtorEq]
 ·have hd:decide ((i:Int) < (v.length:Int) + 1)=true:=decide_eq_true (by omega)
  rw [if_pos (by omega)]
  by_cases hlt:i < v.length
  ·obtain ⟨k,rfl⟩:∃ k,i=k + 1:=⟨i - 1,by omega⟩
   obtain ⟨y,hy⟩:=dW hlt
   obtain ⟨x,hx⟩:=dW (show k < v.length by omega)
   have hxy:=hr k x y hx hy
   have h1:decide (0 < ((k + 1:Nat):Int))=true:=decide_eq_true (by omega)
   have h2:decide (y < x)=false:=decide_eq_false (by omega)
   have hn1:(((k + 1:Nat):Int) - 1).toNat=k:=by omega
   have h0:(0:Int)<=((k + 1:Nat):Int):=by omega
   have h0':(0:Int)<=((k + 1:Nat):Int) - 1:=by omega
   have hg1:(v ++ [p])[k + 1]?=some y:=by rw [List.getElem?_append_left hlt]; exact hy
   have hg2:(v ++ [p])[k]?=some x:=by rw [List.getElem?_append_left (by omega)]; exact hx
   simp only [hd,↓wA,↓wC,wB,cD,reduceIte,reduceCtorEq]
   refine eK (fun _:Unit=>⟨[(0,.own 0),(1,.d (.int .i64 0)),(2,.d (.int .i64 (v.length + 1))),(6,.d (.int .i64 ((k + 1:Nat):Int))),(7,.d (.int .i64 ((k + 1:Nat):Int)))],[.val (.sl true 1 (dl iD (v ++ [p])))]⟩) (fun _=>True) (fun _=>0) () (cV _ rfl ⟨⟨rfl,rfl⟩,⟨rfl,rfl⟩,⟨rfl,rfl⟩,⟨rfl,rfl⟩,⟨rfl,rfl⟩,trivial⟩) trivial ?_
   rintro _ _
   repeat' (first|(simp only [sZ,h1,h2,hn1,h0,h0',dC,hg1,hg2,aQ,cK,aI,↓wA,↓wC,wB,cD,reduceIte,reduceCtorEq,aYr])|(refine cJ (oP y x) rfl rfl ?_)|(refine cL (oP y x) rfl rfl ?_)|(refine cL (oP _ _) rfl rfl ?_)|(with_reducible refine cM ?_ ?_; focus (simp only [dX]; omega))|((first|apply cH|apply cI|apply cG)<;>intro h<;>try simp only [h]))
   refine ⟨k + 1 + 1,?_,⟨by omega,by omega⟩,by omega⟩
   rw [if_pos (by omega)]
   exact (cV _ rfl ⟨⟨rfl,rfl⟩,⟨rfl,rfl⟩,⟨rfl,rfl⟩,⟨rfl,rfl⟩,trivial⟩)
  ·have e:i=v.length:=by omega
   subst e
   simp only [hd,↓wA,↓wC,wB,cD,reduceIte,reduceCtorEq]
   refine eK (fun j:Nat=>⟨[(0,.own 0),(1,.d (.int .i64 0)),(2,.d (.int .i64 (v.length + 1))),(6,.d (.int .i64 (v.length:Int))),(7,.d (.int .i64 j))],[.val (.sl true 1 (dl iD (mv p v j)))]⟩) (fun j=>j<=v.length/\∀ x,v[j]?=some x->¬ x < p) (fun j=>j) v.length ?_ ⟨aL _,fun x hx=>absurd (cQ hx) (by omega)⟩ ?_
   ·rw [aWP]; exact (cV _ rfl ⟨⟨rfl,rfl⟩,⟨rfl,rfl⟩,⟨rfl,rfl⟩,⟨rfl,rfl⟩,⟨rfl,rfl⟩,trivial⟩)
   rintro j ⟨hj,hjx⟩
   cases j with
   | zero =>
    have hf:=hput 0 hj (fun m x hm _=>by omega) hjx
    have h1:decide (0 < ((0:Nat):Int))=false:=rfl
    repeat' (first|(simp only [h1,↓wA,↓wC,wB,cD,reduceIte,reduceCtorEq])|(with_reducible refine cM ?_ ?_; focus (simp only [dX]; omega))|((first|apply cH|apply cI|apply cG)<;>intro h<;>try simp only [h]))
    refine ⟨v.length + 1,?_,⟨by omega,by omega⟩,by omega⟩
    rw [if_neg (by omega),<-hf]
    exact (cV _ rfl ⟨⟨rfl,rfl⟩,⟨rfl,rfl⟩,⟨rfl,rfl⟩,⟨rfl,rfl⟩,trivial⟩)
   | succ k =>
    obtain ⟨x,hx⟩:=dW (show k < v.length by omega)
    have hne:=hnp hx
    have h1:decide (0 < ((k + 1:Nat):Int))=true:=decide_eq_true (by omega)
    have hn1:(((k + 1:Nat):Int) - 1).toNat=k:=by omega
    have h0:(0:Int)<=((k + 1:Nat):Int):=by omega
    have h0':(0:Int)<=((k + 1:Nat):Int) - 1:=by omega
    have hg1:=aUz (p:=p) hj
    have hg2:=aWg (p:=p) hx
    have hml:=aSf (p:=p) hj
    have hs1:((dl iD (mv p v (k + 1))).setN (k + 1) (.int .i64 x))=dl iD ((mv p v (k + 1)).set (k + 1) x):=kH (f:=iD) _ _ x
    have hs2:((dl iD ((mv p v (k + 1)).set (k + 1) x)).setN k (.int .i64 p))=dl iD (mv p v k):=(kH (f:=iD) _ _ p).trans (by rw [aO0 hx])
    have hg3:((mv p v (k + 1)).set (k + 1) x)[k]?=some x:=by rw [List.getElem?_set_ne (by omega)]; exact hg2
    cases hc:decide (p < x) with
    | false =>
     have hf:=hput (k + 1) hj (fun m z hm hz=>by
      have hc':=of_decide_eq_false hc
      by_cases e:m=k
      ·subst e
       rw [hx] at hz
       injection hz with hz
       omega
      ·have:=aCJ hr k m z x (by omega) hz hx
       omega) hjx
     repeat' (first|(simp only [sZ,h1,hc,hn1,h0,h0',dC,hg1,hg2,aQ,cK,aI,↓wA,↓wC,wB,cD,reduceIte,reduceCtorEq])|(refine cL (oP _ _) rfl rfl ?_)|(with_reducible refine cM ?_ ?_; focus (simp only [dX]; omega))|((first|apply cH|apply cI|apply cG)<;>intro h<;>try simp only [h]))
     refine ⟨v.length + 1,?_,⟨by omega,by omega⟩,by omega⟩
     rw [if_neg (by omega),<-hf]
     exact (cV _ rfl ⟨⟨rfl,rfl⟩,⟨rfl,rfl⟩,⟨rfl,rfl⟩,⟨rfl,rfl⟩,trivial⟩)
    | true =>
     repeat' (first|(simp only [sZ,h1,hc,hn1,h0,h0',dC,hg1,hg2,hg3,hs1,hs2,aQ,cK,aI,aMN,↓wA,↓wC,wB,cD,reduceIte,reduceCtorEq,aD])|(refine cL (oP _ _) rfl rfl ?_)|(refine dJ ?_)|(with_reducible refine cM ?_ ?_; focus (simp only [dX]; omega))|((first|apply cH|apply cI|apply cG)<;>intro h<;>try simp only [h]))
     rw [show ((k + 1:Nat):Int) - 1=(k:Int) by omega]
     refine ⟨k,(cV _ rfl ⟨⟨rfl,rfl⟩,⟨rfl,rfl⟩,⟨rfl,rfl⟩,⟨rfl,rfl⟩,⟨rfl,rfl⟩,trivial⟩),⟨by omega,fun z hz=>?_⟩,by omega⟩
     rw [hx] at hz
     injection hz with hz
     have:=of_decide_eq_true hc
     omega
theorem aHF (n:Nat) (h:n<=7):Fn prog 214 [.int .u64 n] (fun rs=>rs=[.int .i64 (aEX n)]):=by
 have h1:=aLW n h
 refine cW aRA [] ?_
 dsimp only [aRA,aUl,rF,cS,cE,cR,c8]
 try simp only [wQ]
 repeat' (first|(simp only [↓wA,↓wC,wB,cD,reduceIte,reduceCtorEq])|(refine cJ (h1) rfl rfl ?_)|(refine cL (h1) rfl rfl ?_)|((first|apply cH|apply cI|apply cG)<;>intro h<;>try simp only [h]))
theorem aTc (p:Int) (v:List Int) (m:Int) (hr:aDH v) (hp:p ∉ v) (hlen:v.length<=6):FnM prog 213 false (.sl true 1 (dl iD (v ++ [p]))) [.int .i64 0,.int .i64 (v.length + 1),.int .i64 m] (fun x' rs=>x'=.sl true 1 (dl iD (j6 p v))/\rs=[]):=by
 have hI:=aIm p v hr hp hlen
 have h12:decide ((v.length:Int) + 1 - 0<=12)=true:=decide_eq_true (by omega)
 refine lH aRj [] ?_
 dsimp only [aRj,aT9,rF,cS,cE,cR,c8]
 try simp only [wQ]
 simp only [↓wA,↓wC,wB,cD,cF,reduceIte,reduceCtorEq]
 refine eK (fun _:Unit=>⟨[(0,.own 0),(1,.d (.int .i64 0)),(2,.d (.int .i64 (v.length + 1))),(3,.d (.int .i64 m)),(8,.d (.bool true)),(9,.d (.bool true))],[.val (.sl true 1 (dl iD (v ++ [p])))]⟩) (fun _=>True) (fun _=>0) () (cV _ rfl ⟨⟨rfl,rfl⟩,⟨rfl,rfl⟩,⟨rfl,rfl⟩,⟨rfl,rfl⟩,⟨rfl,rfl⟩,⟨rfl,rfl⟩,trivial⟩) trivial ?_
 rintro _ _
 repeat' (first|(simp only [h12,↓wA,↓wC,wB,cD,reduceIte,reduceCtorEq,aYr])|(refine uO hI rfl rfl rfl ?_)|(with_reducible refine cM ?_ ?_; focus (simp only [dX]; omega))|((first|apply cH|apply cI|apply cG)<;>intro h<;>try simp only [h]))
theorem aQl (p:Int) (v:List Int) (hr:aDH v) (hp:p ∉ v) (hlen:v.length<=6):FnM prog 191 false (.sl true 1 (dl iD (v ++ [p]))) [] (fun x' rs=>x'=.sl true 1 (dl iD (j6 p v))/\rs=[]):=by
 have hl:((v.length + 1:Nat):Int)=(v.length:Int) + 1:=by omega
 have hl2:(v ++ [p]).length=v.length + 1:=by simp
 have hB:Fn prog 214 [.int .u64 ((v.length:Int) + 1)] (fun rs=>rs=[.int .i64 (aEX (v.length + 1))]):=aHF (v.length + 1) (by omega)
 have hP:=aTc p v (aEX (v.length + 1)) hr hp hlen
 have hU:dX .u64 ((v.length:Int) + 1):=by
  have h8:v.length=0\/v.length=1\/v.length=2\/v.length=3\/v.length=4\/v.length=5\/v.length=6:=by omega
  rcases h8 with h|h|h|h|h|h|h
  all_goals
   rw [h]
   show IntKind.wrap .u64 _=_
   decide
 refine lH aQD [] ?_
 dsimp only [aQD,aVY,rF,cS,cE,cR,c8]
 try simp only [wQ]
 repeat' (first|(simp only [cP,hl2,hl,↓wA,↓wC,wB,cD,reduceIte,reduceCtorEq])|(refine cJ (hB) rfl rfl ?_)|(refine cL (hB) rfl rfl ?_)|(refine cM hU ?_)|(refine uO hP rfl rfl rfl ?_)|(with_reducible refine cM ?_ ?_; focus (simp only [dX]; omega))|((first|apply cH|apply cI|apply cG)<;>intro h<;>try simp only [h]))
end Go.Pe.Tryz
namespace Go.Pe.Tryz
def pW (id:Int):List Cs->Nat
 | []=>0
 | x :: xs=>if x.i < id then pW id xs + 1 else 0
theorem qG {id:Int}:∀ (xs:List Cs) (j:Nat),j<=xs.length->(∀ m x,m < j->xs[m]?=some x->x.i < id)->(∀ x,xs[j]?=some x->¬ x.i < id)->pW id xs=j
 | [],j,h,_,_=>by
  simp at h
  subst h
  rfl
 | a :: t,0,_,_,h3=>by
  rw [pW,if_neg (h3 a rfl)]
 | a :: t,j + 1,h,h2,h3=>by
  rw [pW,if_pos (h2 0 a (by omega) rfl),qG t j (by simpa using h) (fun m x hm hx=>h2 (m + 1) x (by omega) (by simpa using hx)) (fun x hx=>h3 x (by simpa using hx))]
def iE (x:Cs) (xs:List Cs):List Cs:=xs.take (pW x.i xs) ++ x :: xs.drop (pW x.i xs)
def s8 (v:Int) (x:Cs):Cs:={ x with h:=x.h.filter fun n=>!decide (n=v) }
def lK (id day:Int):List UInt8:=114 :: (Lib.itoa id ++ 32 :: 100 :: Lib.itoa day)
def kM (o:Off) (i:Nat) (x:Cs):Off :=
 if x.a=1 then { o with cs:=o.cs.eraseIdx i,kept:=o.kept + 1 }
 else if x.a=2 then { o with cs:=o.cs.eraseIdx i,moved:=o.moved + 1 }
 else { o with cs:=o.cs.eraseIdx i,led:=o.led ++ [lK x.i o.day] }
def eA (o:Off) (x:Cs):Bool:=decide (x.d<=o.day) && (decide (x.a=1) || decide (x.a=2) || decide (x.h.length=0))
def vC (v:Int) (xs:List Cs):Bool:=xs.any fun x=>x.h.contains v
def mkO (o:Off) (k id a v:Int):Option Off :=
 if k=2 then (if 0<=fN o.cs id then none else some { o with cs:=iE ⟨id,a,o.day + v,[]⟩ o.cs })
 else if a≠0 then none
 else if k=1 then (if id=0/\1<=v then some { o with day:=o.day + v } else none)
 else if k=4 then (if id=0/\vC v o.cs=true then some { o with cs:=o.cs.map (s8 v) } else none)
 else if 0<=fN o.cs id then
  (match o.cs[(fN o.cs id).toNat]? with
  | some x=>if k=3 then (if x.h.contains v=true then none else some { o with cs:=o.cs.set (fN o.cs id).toNat { x with h:=j6 v x.h } })
   else if k=5 then (if 1<=v then some { o with cs:=o.cs.set (fN o.cs id).toNat { x with d:=x.d + v } } else none)
   else if k=6 then (if v=0/\eA o x=true then some (kM o (fN o.cs id).toNat x) else none)
   else none
  | none=>none)
 else none
def gO (o:Off) (k id a v:Int):Option Off:=if (dN o && c6 v 0 20000)=true then (mkO o k id a v).filter dN else none
def lX (o:Off) (k id a v:Int):Bool :=
 if k=1 then decide (id=0) && decide (a=0) && decide (1<=v)
 else if k=2 then c6 id 1 999 && decide (fN o.cs id < 0) && c6 a 1 3 && decide (0<=v)
 else if k=3 then decide (0<=fN o.cs id) && decide (a=0) && c6 v 1 9
 else if k=4 then decide (id=0) && decide (a=0) && c6 v 1 9
 else if k=5 then decide (0<=fN o.cs id) && decide (a=0) && decide (1<=v)
 else decide (k=6) && decide (0<=fN o.cs id) && decide (a=0) && decide (v=0)
def gZ (o:Off) (k id a v:Int):Option Off :=
 if k=1 then (if v > 20000 - o.day then none else some { o with day:=o.day + v })
 else if k=2 then (if v > 20000 - o.day then none else some { o with cs:=iE ⟨id,a,o.day + v,[]⟩ o.cs })
 else if k=4 then (if vC v o.cs=true then some { o with cs:=o.cs.map (s8 v) } else none)
 else match o.cs[(fN o.cs id).toNat]? with
  | some x=>if k=3 then (if x.h.contains v=true then none else some { o with cs:=o.cs.set (fN o.cs id).toNat { x with h:=j6 v x.h } })
   else if k=5 then (if v > 20000 - x.d then none else some { o with cs:=o.cs.set (fN o.cs id).toNat { x with d:=x.d + v } })
   else if eA o x=true then some (kM o (fN o.cs id).toNat x) else none
  | none=>none
def vE (o:Off) (k id a v:Int):Option Off:=(gZ o k id a v).filter dN
def aGs (o:Off) (k id a v:Int):Option Off:=if (dN o && lX o k id a v)=true then vE o k id a v else none
theorem eF {o:Off} (h:dN o=true):0<=o.day/\o.day<=20000/\o.cs.length<=6/\0<=o.kept/\o.kept<=999/\0<=o.moved/\o.moved<=999/\o.led.length<=8/\(∀ s∈o.led,s.length<=40)/\(∀ x∈o.cs,gB x=true):=by
 have hc:∀ x∈o.cs,gB x=true:=fun x hx=>by
  obtain ⟨i,hi⟩:=List.getElem?_of_mem hx
  exact wN h hi
 simp only [dN,rY,aG,c6,decide_eq_true_eq] at h
 obtain ⟨⟨⟨⟨⟨h1,h2⟩,h3⟩,h4⟩,h5⟩,_⟩:=h
 have hl:o.led.length<=8/\∀ s∈o.led,s.length<=40:=by
  simp only [aCD,Bool.or_eq_true,Bool.not_eq_true',decide_eq_false_iff_not,eG,aG,c6,decide_eq_true_eq,bZ,jQ] at h5
  rcases h5 with h5|⟨h5,h6⟩
  ·have:o.led=[]:=aO.1 (by omega)
   rw [this]; simp
  ·exact ⟨by omega,fun s hs=>by have:=(h6 s hs).1; omega⟩
 exact ⟨h1.1,h1.2,by omega,h3.1,h3.2,h4.1,h4.2,hl.1,hl.2,hc⟩
theorem e8 {x:Cs} (h:gB x=true):1<=x.i/\x.i<=999/\1<=x.a/\x.a<=3/\0<=x.d/\x.d<=20000/\x.h.length<=5/\(∀ n∈x.h,1<=n/\n<=9)/\mZ x.h=true:=by
 simp only [gB,aG,c6,decide_eq_true_eq,bZ] at h
 obtain ⟨⟨⟨⟨h1,h2⟩,h3⟩,h4⟩,h5,h6⟩:=h
 exact ⟨h1.1,h1.2,h2.1,h2.2,h3.1,h3.2,by omega,h5,h6⟩
theorem xK {o:Off} {x:Cs} (hx:x∈o.cs) (h:gB x=false):dN o=false:=by
 cases hh:dN o with
 | false=>rfl
 | true =>
  have:=(eF hh).2.2.2.2.2.2.2.2.2 x hx
  rw [h] at this; cases this
theorem eU {o:Off} (h:dN o=true):o.ok0:=by
 obtain ⟨_,_,h3,_,_,_,_,h8,h9,jT⟩:=eF h
 refine ⟨⟨by omega,fun x hx=>?_⟩,by omega,fun s hs=>by have:=h9 s hs; omega⟩
 have:=(e8 (jT x hx)).2.2.2.2.2.2.1
 unfold Cs.ok0; omega
theorem aPP {o:Off} (h:o.day < 0\/20000 < o.day):dN o=false:=by
 cases hh:dN o with
 | false=>rfl
 | true =>
  have:=eF hh
  omega
theorem aQn (v:Int) (h:List Int):v∈j6 v h:=by simp [j6]
theorem aDF (x:Cs) (xs:List Cs):x∈iE x xs:=by simp [iE]
theorem aBf {α:Type} {xs:List α} {i:Nat} {x y:α} (h:xs[i]?=some x):y∈xs.set i y:=by
 have:=cQ h
 exact aK (i:=i) (by rw [List.getElem?_set]; simp [this])
theorem nD {o:Off} (h:dN o=false):(some o).filter dN=none:=by
 simp [Option.filter,h]
theorem aBr {x:Cs} (h:x.d < 0\/20000 < x.d):gB x=false:=by
 cases hh:gB x with
 | false=>rfl
 | true=>have:=e8 hh; omega
theorem aIz {x:Cs} (h:x.i < 1\/999 < x.i):gB x=false:=by
 cases hh:gB x with
 | false=>rfl
 | true=>have:=e8 hh; omega
theorem aHC {x:Cs} (h:x.a < 1\/3 < x.a):gB x=false:=by
 cases hh:gB x with
 | false=>rfl
 | true=>have:=e8 hh; omega
theorem aHh {x:Cs} {v:Int} (hv:v∈x.h) (h:v < 1\/9 < v):gB x=false:=by
 cases hh:gB x with
 | false=>rfl
 | true=>have:=(e8 hh).2.2.2.2.2.2.2.1 v hv; omega
theorem aJi {o:Off} {v:Int} (h:dN o=true) (hv:v < 1\/9 < v):vC v o.cs=false:=by
 cases hh:vC v o.cs with
 | false=>rfl
 | true =>
  obtain ⟨x,hx,hc⟩:=List.any_eq_true.1 hh
  have:=(e8 ((eF h).2.2.2.2.2.2.2.2.2 x hx)).2.2.2.2.2.2.2.1 v (bT.1 hc)
  omega
theorem iY {n a b:Int} (h1:a<=n) (h2:n<=b):c6 n a b=true:=by simp [c6,h1,h2]
theorem aNc (o:Off) (k id a v:Int):aGs o k id a v=gO o k id a v:=by
 unfold aGs gO
 cases ho:dN o with
 | false=>simp
 | true =>
  have hp:=eF ho
  simp only [Bool.true_and]
  unfold vE gZ mkO lX
  by_cases k1:k=1
  ·subst k1
   simp only [if_true,show ¬ (1:Int)=2 by decide,if_false]
   by_cases ha:a=0
   ·by_cases hi:id=0/\1<=v
    ·have e1:(decide (id=0) && decide (a=0) && decide (1<=v))=true:=by simp [hi.1,ha,hi.2]
     rw [if_pos e1,if_neg (show ¬ a≠0 from fun h=>h ha),if_pos hi]
     by_cases hv:v > 20000 - o.day
     ·rw [if_pos hv]
      split
      ·rw [nD (aPP (.inr (by simp only; omega)))]; rfl
      ·rfl
     ·rw [if_neg hv,if_pos (iY (by omega) (by omega))]
    ·have e1:¬ (decide (id=0) && decide (a=0) && decide (1<=v))=true:=by
      simp only [aG,decide_eq_true_eq]
      intro h; exact hi ⟨h.1.1,h.2⟩
     rw [if_neg e1,if_neg (show ¬ a≠0 from fun h=>h ha),if_neg hi]
     simp
   ·have e1:¬ (decide (id=0) && decide (a=0) && decide (1<=v))=true:=by simp [ha]
    rw [if_neg e1,if_pos ha]
    simp
  ·by_cases k2:k=2
   ·subst k2
    simp only [if_true,show ¬ (2:Int)=1 by decide,if_false]
    by_cases hf:0<=fN o.cs id
    ·rw [if_pos hf,if_neg (by simp only [aG,decide_eq_true_eq]; omega)]
     simp
    ·rw [if_neg hf]
     have hm:=aDF ⟨id,a,o.day + v,[]⟩ o.cs
     by_cases hs:(c6 id 1 999 && decide (fN o.cs id < 0) && c6 a 1 3 && decide (0<=v))=true
     ·rw [if_pos hs]
      simp only [aG,decide_eq_true_eq] at hs
      by_cases hv:v > 20000 - o.day
      ·rw [if_pos hv]
       split
       ·rw [nD (xK hm (aBr (.inr (by simp only; omega))))]; rfl
       ·rfl
      ·rw [if_neg hv,if_pos (iY (by omega) (by omega))]
     ·rw [if_neg hs]
      split
      ·rename_i hw
       have hw:=jW.1 hw
       rw [nD]
       simp only [aG,decide_eq_true_eq,jW] at hs
       by_cases q1:1<=id/\id<=999
       ·exact xK hm (aHC (by simp only; omega))
       ·exact xK hm (aIz (by simp only; omega))
      ·rfl
   ·rw [if_neg k1,if_neg k1,if_neg k2,if_neg k2,if_neg k2,if_neg k1]
    by_cases ha:a=0
    case neg =>
     rw [if_pos ha,if_neg]
     ·simp
     ·split
      ·simp [ha]
      ·split
       ·simp [ha]
       ·split<;>simp [ha]
    rw [if_neg (show ¬ a≠0 from fun h=>h ha)]
    by_cases k4:k=4
    ·subst k4
     simp only [if_true,show ¬ (4:Int)=3 by decide,if_false]
     by_cases hi:id=0
     ·by_cases hv:1<=v/\v<=9
      ·have e1:(decide (id=0) && decide (a=0) && c6 v 1 9)=true:=by
        simp only [aG,decide_eq_true_eq,jW]; exact ⟨⟨hi,ha⟩,hv⟩
       rw [if_pos e1,if_pos (iY (by omega) (by omega))]
       cases hh:vC v o.cs with
       | true=>rw [if_pos rfl,if_pos ⟨hi,rfl⟩]
       | false=>rw [if_neg (by decide),if_neg (show ¬ (id=0/\false=true) from fun h=>by cases h.2)]
      ·have e1:¬ (decide (id=0) && decide (a=0) && c6 v 1 9)=true:=by
        simp only [aG,decide_eq_true_eq,jW]; exact fun h=>hv h.2
       rw [if_neg e1,aJi ho (by omega),if_neg (show ¬ (id=0/\false=true) from fun h=>by cases h.2)]
       simp
     ·have e1:¬ (decide (id=0) && decide (a=0) && c6 v 1 9)=true:=by simp [hi]
      rw [if_neg e1,if_neg (show ¬ (id=0/\vC v o.cs=true) from fun h=>hi h.1)]
      simp
    ·rw [if_neg k4,if_neg k4,if_neg k4]
     by_cases hf:0<=fN o.cs id
     case neg =>
      rw [if_neg hf,if_neg]
      ·simp
      ·split
       ·simp [hf]
       ·split<;>simp [hf]
     rw [if_pos hf]
     rcases lM o.cs id with ⟨_,hn⟩|⟨i,x,hi,hr,_⟩
     ·exact absurd hf (of_decide_eq_false hn)
     have hxc:=e8 (hp.2.2.2.2.2.2.2.2.2 x (aK hr))
     rw [hi,aI,hr]
     simp only
     have hi0:(0:Int)<=(i:Int):=by omega
     by_cases k3:k=3
     ·subst k3
      simp only [if_true]
      by_cases hv:1<=v/\v<=9
      ·have e1:(decide (0<=(i:Int)) && decide (a=0) && c6 v 1 9)=true:=by
        simp only [aG,decide_eq_true_eq,jW]; exact ⟨⟨hi0,ha⟩,hv⟩
       rw [if_pos e1,if_pos (iY (by omega) (by omega))]
      ·have e1:¬ (decide (0<=(i:Int)) && decide (a=0) && c6 v 1 9)=true:=by
        simp only [aG,decide_eq_true_eq,jW]; exact fun h=>hv h.2
       rw [if_neg e1]
       split
       ·split
        ·rfl
        ·rw [nD (xK (x:={ x with h:=j6 v x.h }) (aBf hr) (aHh (aQn v x.h) (by omega)))]
       ·rfl
     ·rw [if_neg k3,if_neg k3,if_neg k3]
      by_cases k5:k=5
      ·subst k5
       simp only [if_true]
       by_cases hv:1<=v
       ·have e1:(decide (0<=(i:Int)) && decide (a=0) && decide (1<=v))=true:=by
         simp only [aG,decide_eq_true_eq]; exact ⟨⟨hi0,ha⟩,hv⟩
        rw [if_pos e1,if_pos hv]
        by_cases hv2:v > 20000 - x.d
        ·rw [if_pos hv2]
         split
         ·rw [nD (xK (x:={ x with d:=x.d + v }) (aBf hr) (aBr (.inr (by simp only; omega))))]; rfl
         ·rfl
        ·rw [if_neg hv2,if_pos (iY (by omega) (by omega))]
       ·have e1:¬ (decide (0<=(i:Int)) && decide (a=0) && decide (1<=v))=true:=by
         simp only [aG,decide_eq_true_eq]; exact fun h=>hv h.2
        rw [if_neg e1,if_neg hv]
        simp
      ·rw [if_neg k5,if_neg k5,if_neg k5]
       by_cases k6:k=6
       ·rw [if_pos k6]
        by_cases hv:v=0
        ·have e1:(decide (k=6) && decide (0<=(i:Int)) && decide (a=0) && decide (v=0))=true:=by
          simp only [aG,decide_eq_true_eq]; exact ⟨⟨⟨k6,hi0⟩,ha⟩,hv⟩
         rw [if_pos e1,if_pos (iY (by omega) (by omega))]
         cases hd:eA o x with
         | true=>rw [if_pos rfl,if_pos ⟨hv,rfl⟩]
         | false=>rw [if_neg (by decide),if_neg (show ¬ (v=0/\false=true) from fun h=>by cases h.2)]
        ·have e1:¬ (decide (k=6) && decide (0<=(i:Int)) && decide (a=0) && decide (v=0))=true:=by
          simp only [aG,decide_eq_true_eq]; exact fun h=>hv h.2
         rw [if_neg e1,if_neg (show ¬ (v=0/\eA o x=true) from fun h=>hv h.1)]
         simp
       ·have e1:¬ (decide (k=6) && decide (0<=(i:Int)) && decide (a=0) && decide (v=0))=true:=by
         simp only [aG,decide_eq_true_eq]; exact fun h=>k6 h.1.1.1
        rw [if_neg e1,if_neg k6]
        simp
end Go.Pe.Tryz
namespace Go.Pe.Tryz
open Go.Proofs.Tryz
theorem aJJ (xs:List Cs) (hlen:xs.length<=1048576):Fn prog 101 [.sl false 4 (dl Cs.s xs)] (fun rs=>rs=[.sl true 4 (dl Cs.s xs)]):=by
 refine cW aQP [] ?_
 dsimp only [aQP,aT0,rF,cS,cE,cR,c8]
 try simp only [wQ]
 simp only [↓wA,↓wC,wB,cU,cT,cD,cF,aYq,reduceIte,reduceCtorEq,aD,aYr,dF]
 refine aHG (fun h=>?_) ?_
 ·rw [cP] at h
  have e:xs=[]:=aO.1 h
  subst e
  simp only [↓wA,↓wC,wB,cU,cT,cD,cF,aYq,reduceIte,reduceCtorEq,aD,aYr,dF]
  refine l0 4 ?_
  rfl
 ·simp only [cP,↓wA,↓wC,wB,cU,cT,cD,cF,aYq,reduceIte,reduceCtorEq,aD,aYr,dF]
  refine cO ⟨by omega,by omega⟩ ?_
  simp only [↓wA,↓wC,wB,cU,cT,cD,cF,aYq,reduceIte,reduceCtorEq,aD,aYr,dF]
theorem aJG (L:List (List UInt8)) (hlen:L.length<=1048576):Fn prog 103 [.sl false 1 (dl D.str L)] (fun rs=>rs=[.sl true 1 (dl D.str L)]):=by
 refine cW aQp [] ?_
 dsimp only [aQp,aUf,rF,cS,cE,cR,c8]
 try simp only [wQ]
 simp only [↓wA,↓wC,wB,cU,cT,cD,cF,aYq,reduceIte,reduceCtorEq,aD,aYr,dF]
 refine aHG (fun h=>?_) ?_
 ·rw [cP] at h
  have e:L=[]:=aO.1 h
  subst e
  simp only [↓wA,↓wC,wB,cU,cT,cD,cF,aYq,reduceIte,reduceCtorEq,aD,aYr,dF]
  refine l0 1 ?_
  rfl
 ·simp only [cP,↓wA,↓wC,wB,cU,cT,cD,cF,aYq,reduceIte,reduceCtorEq,aD,aYr,dF]
  refine cO ⟨by omega,by omega⟩ ?_
  simp only [↓wA,↓wC,wB,cU,cT,cD,cF,aYq,reduceIte,reduceCtorEq,aD,aYr,dF]
def cm (p:Bool×Cs):D:=if p.1 then p.2.o else p.2.s
def xX (xs:List Cs) (i:Nat):List (Bool×Cs):=(xs.take i).map (fun x=>(true,x)) ++ (xs.drop i).map (fun x=>(false,x))
theorem aMj (xs:List Cs) (i:Nat):(xX xs i).length=xs.length:=by simp [xX]; omega
theorem aMK {xs:List Cs} {i:Nat} {x:Cs} (hr:xs[i]?=some x):(xX xs i)[i]?=some (false,x):=by
 have hi:=cQ hr
 rw [xX,List.getElem?_append_right (by simp; omega),bF,aA,aC (by omega),a8,List.getElem?_map,List.getElem?_drop]
 simp [hr]
theorem aLw {xs:List Cs} {i:Nat} {x:Cs} (hr:xs[i]?=some x):(xX xs i).set i (true,x)=xX xs (i + 1):=by
 have hi:=cQ hr
 rw [xX,aZ _ _ (by simp; omega),bF,aA,aC (by omega),a8,aDo hr,b9,bX,xX,fG hr]
 simp
theorem aRY (xs:List Cs):dl cm (xX xs 0)=dl Cs.s xs:=by
 simp only [xX,List.take_zero,cC,b7,List.drop_zero,dl,a7]
 rfl
theorem aSE (xs:List Cs):dl cm (xX xs xs.length)=dl Cs.o xs:=by
 simp only [xX,bB,bL,cC,bE,dl,a7]
 rfl
theorem vP (o:Off) (ho:o.ok0):Fn prog 66 [o.s] (fun rs=>rs=[o.o]):=by
 have hC:=aJJ o.cs ho.1.1
 have hT:=aJG o.led ho.2.1
 have hlen:=ho.1.1
 refine cW aVe [[1,1,0,0],[1,1,1,0]] ?_
 dsimp only [aVe,m66,rF,cS,cE,cR,c8]
 try simp only [wQ]
 simp only [Off.s,dQ]
 repeat' (first|(simp only [cY,cZ,cK,↓wA,↓wC,wB,cU,cT,cD,cF,aYq,reduceIte,reduceCtorEq,aD,aYr,dF])|(refine cJ hC rfl rfl ?_)|((first|apply cH|apply cI|apply cG)<;>intro h<;>try simp only [h]))
 refine eY _ (fL 0 none [1] (es:=4) (xs:=dl Cs.s o.cs) rfl rfl) fun v1=>?_
 simp only [eD,cY,cZ,cK,cP,↓wA,↓wC,wB,cU,cT,cD,cF,aYq,reduceIte,reduceCtorEq,aD,aYr,dF]
 refine dV o.cs.length (fun i:Nat=>⟨[(1,.ptr 0 0 []),(2,.ptr 1 0 []),(10,.d (.int .i64 o.cs.length)),(11,.d (.int .i64 i))],[.box (dQ o (.lnk 4 v1) (.sl false 1 (dl D.str o.led))),.box (.st (.cons (.int .i64 0) (.cons (.sl true 4 .nil) (.cons (.int .i64 0) (.cons (.int .i64 0) (.cons (.sl true 1 .nil) .nil)))))),.dead,.val (.sl true 4 (dl cm (xX o.cs i))),.tag 3 v1]⟩) (fun _=>True) ?_ trivial ?_ ?_
 ·rw [aRY]; exact (cV _ rfl ⟨⟨rfl,rfl⟩,⟨rfl,rfl⟩,⟨rfl,rfl⟩,⟨rfl,rfl⟩,trivial⟩)
 ·intro i hlt _ hd h0
  obtain ⟨x,hr⟩:=dW hlt
  have h1:=aJ3 x.h (ho.1.2 x (aK hr))
  have hg:=aMK hr
  have hcm:cm (false,x)=x.p (.sl false 1 (dl iD x.h)):=rfl
  have hgs:∀ (y:D),((dl cm (xX o.cs i)).setN i y).nth i=some y:=fun y=>by rw [oZ,if_pos rfl,dC,hg]; rfl
  simp only [dQ]
  repeat' (first|(simp only [cP,aMj,hd,h0,dC,aI,hg,hcm,hgs,kK,aQ,cK,dE,jL,fY,iB,↓wA,↓wC,wB,cU,cT,cD,cF,aYq,reduceIte,reduceCtorEq,aD,aYr,dF])|(refine dJ ?_)|(refine cJ h1 rfl rfl ?_)|(refine cM (by simp only [dX]; omega) ?_)|((first|apply cH|apply cI|apply cG)<;>intro h<;>try simp only [h]))
  have e:x.p (.sl true 1 (dl iD x.h))=cm (true,x):=rfl
  rw [e,kH,aLw hr]
  exact ⟨i + 1,(cV _ rfl ⟨⟨rfl,rfl⟩,⟨rfl,rfl⟩,⟨rfl,rfl⟩,⟨rfl,rfl⟩,trivial⟩),by omega,by omega⟩
 ·intro _ hd
  rw [aSE]
  simp only [dQ]
  repeat' (first|(simp only [cP,hd,cK,↓wA,↓wC,wB,cU,cT,cD,cF,aYq,reduceIte,reduceCtorEq,aD,aYr,dF])|((first|apply cH|apply cI|apply cG)<;>intro h<;>try simp only [h]))
  refine dB (iU 0 4 3 none [1] rfl rfl rfl rfl (by decide) rfl) ?_
  simp only [eD,↓wA,↓wC,wB,cU,cT,cD,cF,aYq,reduceIte,reduceCtorEq,aD,aYr,dF]
  repeat' (first|(simp only [cZ,cK,↓wA,↓wC,wB,cD,cF,reduceIte,aD,dF])|(refine cJ hT rfl rfl ?_)|((first|apply cH|apply cI|apply cG)<;>intro h<;>try simp only [h]))
  all_goals exact cO rfl rfl
theorem aJp {v:List Int} (h:mZ v=true):aDH v:=fun j a b ha hb=>by
 have:=(qQ v).1 h j (cQ hb)
 rw [List.getD_eq_getElem?_getD,List.getD_eq_getElem?_getD,ha,hb] at this
 simpa using this
theorem aFR {v:List Int} (h:aDH v):v.Nodup:=by
 rw [List.Nodup,List.pairwise_iff_getElem]
 intro i j hi hj hij
 have:=aCJ h j i v[i] v[j] hij (List.getElem?_eq_getElem hi) (List.getElem?_eq_getElem hj)
 omega
theorem aBj {v:Int}:∀ (h:List Int) (k:Nat),h.Nodup->h[k]?=some v->h.take k ++ h.drop (k + 1)=h.filter (fun n=>!decide (n=v))
 | [],k,_,hk=>by simp at hk
 | a :: t,0,hn,hk=>by
  simp only [List.getElem?_cons_zero,Option.some.injEq] at hk
  subst hk
  obtain ⟨h1,h2⟩:=aM.1 hn
  have:t.filter (fun n=>!decide (n=a))=t:=by
   rw [bW]
   intro x hx
   have:x≠a:=fun e=>h1 (e ▸ hx)
   simp [this]
  simp [this]
 | a :: t,k + 1,hn,hk=>by
  obtain ⟨h1,h2⟩:=aM.1 hn
  simp only [List.getElem?_cons_succ] at hk
  have ha:a≠v:=fun e=>h1 (e ▸ aK hk)
  have ih:=aBj t k h2 hk
  simp only [List.take_succ_cons,List.drop_succ_cons,bY,ih]
  simp [ha]
theorem aUq {v:Int} {h:List Int} (hn:h.contains v=false):h.filter (fun n=>!decide (n=v))=h:=by
 rw [bW]
 intro x hx
 have:x≠v:=fun e=>by
  subst e
  rw [bT.2 hx] at hn
  cases hn
 simp [this]
theorem aNT {v:Int} {h:List Int}:decide (0<=jX (fun x=>decide (v=x)) h)=h.contains v:=by
 rw [rA,s5]
def sS (v:Int) (xs:List Cs) (i:Nat):List Cs:=(xs.take i).map (s8 v) ++ xs.drop i
theorem tD (v:Int) (xs:List Cs) (i:Nat):(sS v xs i).length=xs.length:=by simp [sS]; omega
theorem aGB {v:Int} {xs:List Cs} {i:Nat} {x:Cs} (hr:xs[i]?=some x):(sS v xs i)[i]?=some x:=by
 have hi:=cQ hr
 rw [sS,List.getElem?_append_right (by simp; omega),bF,aA,aC (by omega),a8,List.getElem?_drop]
 simpa using hr
theorem aCM {v:Int} {xs:List Cs} {i:Nat} {x:Cs} (hr:xs[i]?=some x):(sS v xs i).set i (s8 v x)=sS v xs (i + 1):=by
 have hi:=cQ hr
 rw [sS,aZ _ _ (by simp; omega),bF,aA,aC (by omega),a8,aDo hr,bX,sS,fG hr]
 simp
theorem aEb {v:Int} {xs:List Cs} {i:Nat} {x:Cs} (hr:xs[i]?=some x):vC v (xs.take (i + 1))=(vC v (xs.take i) || x.h.contains v):=by
 rw [fG hr]
 simp [vC]
theorem aHu (o:Off) (v:Int) (ho:o.ok0) (hn:∀ x∈o.cs,x.h.Nodup):FnM prog 147 true o.o [.int .i64 v] (fun x' rs=>x'=Off.o { o with cs:=o.cs.map (s8 v) }/\rs=[.bool (vC v o.cs)]):=by
 have hlen:=ho.1.1
 refine lH aQ3 [[1,1,0,1,0,0,1,1,0,0,1,0],[1,1,0,1,0,0,1,1,1],[1,1,0,0],[1,1,1,0]] ?_
 dsimp only [aQ3,aU2,rF,cS,cE,cR,c8]
 try simp only [wQ]
 simp only [Off.o,dQ]
 repeat' (first|(simp only [cK,↓wA,↓wC,wB,cD,cF,reduceIte,reduceCtorEq])|((first|apply cH|apply cI|apply cG)<;>intro h<;>try simp only [h]))
 refine eY _ (fL 0 none [1] (es:=4) (xs:=dl Cs.o o.cs) rfl rfl) fun v1=>?_
 simp only [eD,cK,cP,↓wA,↓wC,wB,cD,cF,reduceIte,reduceCtorEq]
 refine dV o.cs.length (fun i:Nat=>⟨[(0,.ptr 0 0 []),(1,.d (.int .i64 v)),(5,.d (.bool (vC v (o.cs.take i)))),(12,.d (.int .i64 o.cs.length)),(13,.d (.int .i64 i))],[.box (dQ o (.lnk 2 v1) (.sl true 1 (dl D.str o.led))),.val (.sl true 4 (dl Cs.o (sS v o.cs i))),.tag 1 v1]⟩) (fun _=>True) ?_ trivial ?_ ?_
 ·exact (cV _ rfl ⟨⟨rfl,rfl⟩,⟨rfl,rfl⟩,⟨rfl,rfl⟩,⟨rfl,rfl⟩,⟨rfl,rfl⟩,trivial⟩)
 ·intro i hlt _ hd h0
  obtain ⟨x,hr⟩:=dW hlt
  have hg:=aGB (v:=v) hr
  have hxo:=ho.1.2 x (aK hr)
  have hI:=aDN x.h v hxo
  have hI':Fn prog 189 [.sl false 1 (dl iD x.h).unown,.int .i64 v] (fun rs=>rs=[.int .i64 (jX (fun x=>decide (v=x)) x.h)]):=by rw [dS]; exact hI
  have hcm:Cs.o x=x.p (.sl true 1 (dl iD x.h)):=rfl
  have hgs:∀ (y:D),((dl Cs.o (sS v o.cs i)).setN i y).nth i=some y:=fun y=>by rw [oZ,if_pos rfl,dC,hg]; rfl
  have hgn:(dl Cs.o (sS v o.cs i)).nth i=some (x.p (.sl true 1 (dl iD x.h))):=by rw [dC,hg]; rfl
  have hx:=aEb (v:=v) hr
  have hix:=aNT (v:=v) (h:=x.h)
  simp only [dQ]
  repeat' (first|(simp only [hd,↓wA,↓wC,wB,cD,reduceIte,reduceCtorEq])|((first|apply cH|apply cI|apply cG)<;>intro h<;>try simp only [h]))
  refine eY _ (fL 1 (some i) [3] (es:=1) (xs:=dl iD x.h) rfl (by simp only [kP,hgn,bM,fY])) fun v2=>?_
  simp only [eD,hgn,bP,iB,↓wA,↓wC,wB,cD,cF,reduceIte,reduceCtorEq]
  by_cases hge:0<=jX (fun x=>decide (v=x)) x.h
  ·obtain ⟨k,r,hk,hkr,hkp⟩:=aGO hge
   have hrv:v=r:=of_decide_eq_true hkp
   subst hrv
   rw [hk] at hI' hix
   have hc:x.h.contains v=true:=by rw [<- hix]; exact decide_eq_true (by omega)
   rw [hc] at hix hx
   have hD:=aHd x.h k (k + 1) (by omega) (by have:=cQ hkr; omega)
   rw [show ((k + 1:Nat):Int)=(k:Int) + 1 by omega] at hD
   have hkl:k<=1048576:=by
    have:=cQ hkr
    unfold Cs.ok0 at hxo
    omega
   have hdf:=aBj x.h k (hn x (aK hr)) hkr
   repeat' (first|(simp only [h0,hix,hgs,aI,cK,jL,fY,↓wA,↓wC,wB,cD,cF,reduceIte,reduceCtorEq,aD,aYr])|(refine cJ (hI') rfl rfl ?_)|(refine cL (hI') rfl rfl ?_)|(refine dJ ?_)|(with_reducible refine cM ?_ ?_; focus (simp only [dX]; omega))|((first|apply cH|apply cI|apply cG)<;>intro h<;>try simp only [h]))
   refine kG (bx:=false) (r:=3) hD rfl rfl rfl ?_
   rintro _ _ ⟨⟨u,rfl⟩,rfl⟩
   repeat' (first|(simp only [h0,hgs,kK,aI,cK,jL,fY,iB,↓wA,↓wC,wB,cD,cF,reduceIte,reduceCtorEq,aD])|(with_reducible refine cM ?_ ?_; focus (simp only [dX]; omega))|((first|apply cH|apply cI|apply cG)<;>intro h<;>try simp only [h]))
   refine dB (gH.refl _) ?_
   repeat' (first|(simp only [↓wA,↓wC,wB,cD,reduceIte,reduceCtorEq])|(with_reducible refine cM ?_ ?_; focus (simp only [dX]; omega))|((first|apply cH|apply cI|apply cG)<;>intro h<;>try simp only [h]))
   have e:x.p (.sl true 1 (dl iD (x.h.take k ++ x.h.drop (k + 1))))=Cs.o (s8 v x):=by rw [hdf]; rfl
   rw [e,kH,aCM hr]
   refine ⟨i + 1,?_,by omega,by omega⟩
   rw [hx,Bool.or_true]
   exact (cV _ rfl ⟨⟨rfl,rfl⟩,⟨rfl,rfl⟩,⟨rfl,rfl⟩,⟨rfl,rfl⟩,⟨rfl,rfl⟩,trivial⟩)
  ·have hm:=aMF hge
   rw [hm] at hI' hix
   have hc:x.h.contains v=false:=by rw [<- hix]; rfl
   rw [hc] at hix hx
   have hrx:s8 v x=x:=by
    show ({ x with h:=_ }:Cs)=x
    rw [aUq hc]
   repeat' (first|(simp only [h0,hix,hgs,aI,cK,jL,fY,↓wA,↓wC,wB,cD,cF,reduceIte,reduceCtorEq])|(refine cJ (hI') rfl rfl ?_)|(refine cL (hI') rfl rfl ?_)|(with_reducible refine cM ?_ ?_; focus (simp only [dX]; omega))|((first|apply cH|apply cI|apply cG)<;>intro h<;>try simp only [h]))
   refine dB (iU 1 4 3 (some i) [3] rfl (by simp only [kP,hgs,bM,fY]) rfl rfl (by decide) rfl) ?_
   simp only [eD,hgs,bP,iB,kK,↓wA,↓wC,wB,cD,reduceIte,reduceCtorEq]
   repeat' (first|(simp only [cK,↓wA,↓wC,wB,cU,cT,cD,cF,aYq,reduceIte,reduceCtorEq,aD,aYr])|(with_reducible refine cM ?_ ?_; focus (simp only [dX]; omega))|((first|apply cH|apply cI|apply cG)<;>intro h<;>try simp only [h]))
   have e:x.p (.sl true 1 (dl iD x.h))=Cs.o (s8 v x):=by rw [hrx]; rfl
   rw [e,kH,aCM hr]
   refine ⟨i + 1,?_,by omega,by omega⟩
   rw [hx,Bool.or_false]
   exact (cV _ rfl ⟨⟨rfl,rfl⟩,⟨rfl,rfl⟩,⟨rfl,rfl⟩,⟨rfl,rfl⟩,⟨rfl,rfl⟩,trivial⟩)
 ·intro _ hd
  have er:sS v o.cs o.cs.length=o.cs.map (s8 v):=by simp [sS]
  rw [er,bB]
  simp only [dQ]
  repeat' (first|(simp only [hd,↓wA,↓wC,wB,cD,reduceIte,reduceCtorEq])|((first|apply cH|apply cI|apply cG)<;>intro h<;>try simp only [h]))
  refine dB (iU 0 2 1 none [1] rfl rfl rfl rfl (by decide) rfl) ?_
  simp only [eD,↓wA,↓wC,wB,cD,reduceIte,reduceCtorEq]
  repeat' (first|(simp only [cK,↓wA,↓wC,wB,cU,cT,cD,cF,aYq,reduceIte,reduceCtorEq,aD,aYr])|((first|apply cH|apply cI|apply cG)<;>intro h<;>try simp only [h]))
  all_goals exact ⟨rfl,rfl⟩
def aAP (xs:List Cs):List (Bool×Cs):=xs.map fun x=>(true,x)
theorem aP5 (xs:List Cs):dl cm (aAP xs)=dl Cs.o xs:=by
 simp only [dl,aAP,a7]; rfl
theorem aLt {xs:List Cs} {i:Nat} {x:Cs} (hr:xs[i]?=some x):(aAP xs)[i]?=some (true,x):=by simp [aAP,hr]
theorem aMk {xs:List Cs} {i:Nat} {p:Bool×Cs} (hi:i < xs.length):(((aAP xs).set i p).map cm).take i ++ (((aAP xs).set i p).map cm).drop (i + 1)=(xs.eraseIdx i).map Cs.o:=by
 rw [<- bU,<-bV,List.take_set_of_le (aL _),List.drop_set_of_lt (by omega),<-bQ]
 unfold aAP
 rw [<- bU,<-bV,<-bQ,a7,List.eraseIdx_eq_take_drop_succ]
 rfl
theorem aPz (xs:List (Bool×Cs)):∀ d∈xs.map cm,d.size=4:=fun d hd=>by
 obtain ⟨⟨b,x⟩,_,rfl⟩:=cB.1 hd
 cases b<;>rfl
theorem aLu (L:List (List UInt8)) (s:List UInt8):(dl D.str L).app (D.cons (.str s) .nil)=dl D.str (L ++ [s]):=hZ (f:=D.str) L s
theorem aNl (a b:List UInt8):([114] ++ a) ++ [32,100] ++ b=114 :: (a ++ 32 :: 100 :: b):=by simp
theorem aQg (o:Off) (i:Nat) (x:Cs) (ho:dN o=true) (hr:o.cs[i]?=some x):FnM prog 192 true o.o [.int .i64 i] (fun x' rs=>rs=[.bool (eA o x)]/\(eA o x=true->x'=(kM o i x).o)):=by
 have hp:=eF ho
 have hx:=e8 (hp.2.2.2.2.2.2.2.2.2 x (aK hr))
 have hil:=cQ hr
 have hi0:(0:Int)<=(i:Int):=by omega
 have hgA:=aLt hr
 have hgn:(dl Cs.o o.cs).nth i=some (x.p (.sl true 1 (dl iD x.h))):=by rw [dC,hr]; rfl
 have hcmf:cm (false,x)=x.p (.sl false 1 (dl iD x.h)):=rfl
 have hset:(dl Cs.o o.cs).setN i (x.p (.sl false 1 (dl iD x.h)))=dl cm ((aAP o.cs).set i (false,x)):=by
  rw [<- aP5,<-hcmf,kH]
 have hgF:((aAP o.cs).set i (false,x))[i]?=some (false,x):=by
  rw [List.getElem?_set,if_pos rfl,if_pos (cQ hgA)]
 have hxs:x.p (.sl false 1 (dl iD x.h))=x.s:=rfl
 have hD:=aIq (((aAP o.cs).set i (false,x)).map cm) (aPz _) i (i + 1) (by omega) (by simp [aAP]; omega)
 rw [aMk hil,show ((i + 1:Nat):Int)=(i:Int) + 1 by omega] at hD
 have hD:FnM prog 215 false (.sl true 4 (dl cm ((aAP o.cs).set i (false,x)))) [.int .i64 i,.int .i64 ((i:Int) + 1)] (fun x' rs=>(∃ u,x'=.lnk 0 u)/\rs=[.sl true 4 (dl Cs.o (o.cs.eraseIdx i))]):=hD
 refine lH aQ7 [[1,1,1,0,1,0,1,1,1,1,1],[1,0],[1,0]] ?_
 dsimp only [aQ7,aWk,rF,cS,cE,cR,c8]
 try simp only [wQ]
 simp only [Off.o,dQ]
 repeat' (first|(simp only [cK,↓wA,↓wC,wB,cD,cF,reduceIte,reduceCtorEq])|((first|apply cH|apply cI|apply cG)<;>intro h<;>try simp only [h]))
 refine eY _ (fL 0 none [1] (es:=4) (xs:=dl Cs.o o.cs) rfl rfl) fun v1=>?_
 simp only [eD,wB,cF,reduceIte]
 refine dB (freeze 1 (some i) [3] (x:=.sl true 1 (dl iD x.h)) rfl (by simp only [kP,hgn,bM,fY]) rfl) ?_
 simp only [eD,hgn,bP,iB,D.unown,dS,hset,↓wA,↓wC,wB,cD,cF,reduceIte,reduceCtorEq]
 have hdl:(1:Int)<=o.cs.length:=by omega
 cases h1:decide (o.day < x.d) with
 | true =>
  have hB:eA o x=false:=by
   have:=of_decide_eq_true h1
   unfold eA
   rw [decide_eq_false (by omega)]; rfl
  repeat' (first|(simp only [dC,hi0,hgF,hcmf,aI,aQ,cK,hxs,↓lQ,aX3,aX6,nW,nY,h1,↓wA,↓wC,wB,cD,cF,reduceIte,reduceCtorEq])|((first|apply cH|apply cI|apply cG)<;>intro h<;>try simp only [h]))
  all_goals exact ⟨by rw [hB],fun h=>by rw [hB] at h; cases h⟩
 | false =>
  have h1':=of_decide_eq_false h1
  have h0:decide (x.d<=o.day)=true:=decide_eq_true (by omega)
  cases h2:decide (x.a=1) with
  | true =>
   have h2':=of_decide_eq_true h2
   have hB:eA o x=true:=by unfold eA; rw [h0,h2]; rfl
   have hO:(kM o i x).o=dQ { o with kept:=o.kept + 1 } (.sl true 4 (dl Cs.o (o.cs.eraseIdx i))) (.sl true 1 (dl D.str o.led)):=by
    unfold kM; rw [if_pos h2']; rfl
   repeat' (first|(simp only [dC,hi0,hgF,hcmf,aI,aQ,cK,hxs,↓lQ,aX3,aX6,rW,sE,nW,nY,h1,h2,↓wA,↓wC,wB,cD,cF,reduceIte,reduceCtorEq])|(with_reducible refine cM ?_ ?_; focus (simp only [dX]; omega))|((first|apply cH|apply cI|apply cG)<;>intro h<;>try simp only [h]))
   refine kG (bx:=false) (r:=1) hD rfl rfl rfl ?_
   rintro _ _ ⟨⟨u,rfl⟩,rfl⟩
   repeat' (first|(simp only [cK,↓wA,↓wC,wB,cD,cF,reduceIte,reduceCtorEq,aD])|((first|apply cH|apply cI|apply cG)<;>intro h<;>try simp only [h]))
   all_goals exact ⟨by rw [hB],fun _=>hO.symm⟩
  | false =>
   have h2':=of_decide_eq_false h2
   cases h3:decide (x.a=2) with
   | true =>
    have h3':=of_decide_eq_true h3
    have hB:eA o x=true:=by unfold eA; rw [h0,h2,h3]; rfl
    have hO:(kM o i x).o=dQ { o with moved:=o.moved + 1 } (.sl true 4 (dl Cs.o (o.cs.eraseIdx i))) (.sl true 1 (dl D.str o.led)):=by
     unfold kM; rw [if_neg h2',if_pos h3']; rfl
    repeat' (first|(simp only [dC,hi0,hgF,hcmf,aI,aQ,cK,hxs,↓lQ,aX3,aX6,rW,sE,nW,nY,h1,h2,h3,↓wA,↓wC,wB,cD,cF,reduceIte,reduceCtorEq])|(with_reducible refine cM ?_ ?_; focus (simp only [dX]; omega))|((first|apply cH|apply cI|apply cG)<;>intro h<;>try simp only [h]))
    refine kG (bx:=false) (r:=1) hD rfl rfl rfl ?_
    rintro _ _ ⟨⟨u,rfl⟩,rfl⟩
    repeat' (first|(simp only [cK,↓wA,↓wC,wB,cD,cF,reduceIte,reduceCtorEq,aD])|((first|apply cH|apply cI|apply cG)<;>intro h<;>try simp only [h]))
    all_goals exact ⟨by rw [hB],fun _=>hO.symm⟩
   | false =>
    have h3':=of_decide_eq_false h3
    cases h4:decide ((0:Int) < (x.h.length:Int)) with
    | true =>
     have h4':=of_decide_eq_true h4
     have hB:eA o x=false:=by unfold eA; rw [h0,h2,h3,decide_eq_false (by omega)]; rfl
     repeat' (first|(simp only [dC,hi0,hgF,hcmf,aI,aQ,cK,dE,hxs,↓lQ,aX3,aX6,rW,sE,nW,nY,uT,u4,cP,h1,h2,h3,h4,↓wA,↓wC,wB,cD,cF,reduceIte,reduceCtorEq])|((first|apply cH|apply cI|apply cG)<;>intro h<;>try simp only [h]))
     all_goals exact ⟨by rw [hB],fun h=>by rw [hB] at h; cases h⟩
    | false =>
     have h4':=of_decide_eq_false h4
     have hB:eA o x=true:=by unfold eA; rw [h0,h2,h3,decide_eq_true (show x.h.length=0 by omega)]; rfl
     have hO:(kM o i x).o=dQ o (.sl true 4 (dl Cs.o (o.cs.eraseIdx i))) (.sl true 1 (dl D.str (o.led ++ [lK x.i o.day]))):=by
      unfold kM; rw [if_neg h2',if_neg h3']; rfl
     have hiR:dX .i64 x.i:=by simp only [dX]; omega
     have hdR:dX .i64 o.day:=by simp only [dX]; omega
     have hN1:=eZ x.i hiR
     have hN2:=eZ o.day hdR
     have hl1:=eL x.i hiR
     have hl2:=eL o.day hdR
     have hE:=aNl (Lib.itoa x.i) (Lib.itoa o.day)
     have hE':114 :: (Lib.itoa x.i ++ 32 :: 100 :: Lib.itoa o.day)=lK x.i o.day:=rfl
     repeat' (first|(simp only [dC,hi0,hgF,hcmf,aI,aQ,cK,dE,hxs,↓lQ,aX3,aX6,rW,sE,nW,nY,uT,u4,cP,h1,h2,h3,h4,↓wA,↓wC,wB,cD,cF,reduceIte,reduceCtorEq])|((first|apply cH|apply cI|apply cG)<;>intro h<;>try simp only [h]))
     refine eY _ (fL 0 none [4] (es:=1) (xs:=dl D.str o.led) rfl rfl) fun v2=>?_
     simp only [eD,↓wA,↓wC,wB,cD,cF,reduceIte,reduceCtorEq,aD,aYr]
     repeat' (first|(simp only [cK,aBd,aA2,cP,hE',aLu,↓wA,↓wC,wB,cD,cF,reduceIte,reduceCtorEq,aD,aYr])|(refine cJ (hN1) rfl rfl ?_)|(refine cL (hN1) rfl rfl ?_)|(refine cJ (hN2) rfl rfl ?_)|(refine cL (hN2) rfl rfl ?_)|(refine dJ ?_)|(with_reducible refine cM ?_ ?_; focus (simp only [dX]; omega))|(with_reducible refine cO ?_ ?_; focus omega)|(with_reducible refine cO ?_ ?_; focus (simp only [aB,bK,b6]; omega))|((first|apply cH|apply cI|apply cG)<;>intro h<;>try simp only [h]))
     refine cO (by simp) (cO (by omega) ?_)
     refine cM (by simp only [dX]; omega) ?_
     refine kG (bx:=false) (r:=1) hD rfl rfl rfl ?_
     rintro _ _ ⟨⟨u,rfl⟩,rfl⟩
     repeat' (first|(simp only [cK,↓wA,↓wC,wB,cD,cF,reduceIte,reduceCtorEq,aD])|((first|apply cH|apply cI|apply cG)<;>intro h<;>try simp only [h]))
     all_goals exact ⟨by rw [hB],fun _=>hO.symm⟩
end Go.Pe.Tryz
