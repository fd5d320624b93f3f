/- slices.Delete at cases and at numbers: walked over raw memory; its contract; slices.Insert at cases: walked over raw memory; its contract; slices.Insert at cases where there is room; its contract; Numbers as decimal text: the library's, and the reference's own road to it; Texts of cases (strings.Join, decimals, caseText, l25Text), walked; A case of an office by its number, its text, walked; the law of CaseText; Steps of an office, as plain lists: the program's road and the reference's agree; Marks as text: on lists of texts, walked; Marks on offices, walked; Steps of an office: copies, walked; Steps of an office: a hold is released; walked -/
import Derived.Test.YtmkmjcgkcpmmpaaGreatDoorW1
import Derived.Shelf.RegionOpenPlain
import Derived.WalkKit
import Derived.Deep.RegionLaw
import Derived.Lib.Walk
import Derived.Lib.SliceRun
import Derived.Test.YtmkmjcgkcpmmpaaGreatDoorPeD
import Derived.Test.YtmkmjcgkcpmmpaaGreatDoorMc1
import Derived.Test.YtmkmjcgkcpmmpaaGreatDoorMc2
import Derived.Test.YtmkmjcgkcpmmpaaGreatDoorMc3
import Derived.Test.YtmkmjcgkcpmmpaaGreatDoorMc4
import Derived.Test.YtmkmjcgkcpmmpaaGreatDoorMc5
import Derived.Lib.AppendZerosOnto
import Derived.Lib.Overlaps
import Derived.Laws.IdiomCopy
import Derived.Laws.NewBlocks
import Derived.OwnWalk
import Derived.Test.YtmkmjcgkcpmmpaaGreatDoorShelf
import Derived.Lib.ItoaLen
set_option maxRecDepth 100000
set_option maxHeartbeats 4000000
set_option linter.all false
namespace Go.Pe.Tryz
open Nat (reduceEqDiff reduceAdd reduceSub reduceLT)
open Go Go.RowKit Go.Shelf Go.Lib Go.Proofs.Tryz
theorem vC {P:Program} {ops:Array Oper} {o:Oper} {a:Act} {w:World} {K:Act->World->Prop} {Q:Exit->Act->World->Prop} {E:Prop}
  (hg:o.guard=none) (d x:Operand) (dT sT:TypeId) (hop:o.op=Op.call { callee:=Callee.builtin Builtin.append,args:=#[d,x],argTypes:=#[dT,sT] })
  (v u:Value) (hd:a.eval d=v) (hx:a.eval x=u) {v':Value} {w':World} (hr:(Builtin.append_ #[dT,sT] o.type #[v,u]).run P w=.ok v' w') (hK:K (a.put o.dst v') w') :
  if Region.wanted o (yielded ops a.tmps)=true then Oper.wp P o a w K Q else E:=by
 have hw:Region.wanted o (yielded ops a.tmps)=true:=by simp [Region.wanted,hg]
 rw [if_pos hw]
 unfold Oper.wp
 simp [execOp,hop,resolve,invoke,builtin,hd,hx,hr,Result.andThen]
 exact hK
theorem aFR {P:PG} {f:FuncId} (es:Nat)
  (raw:∀ (g n cp i j:Nat) (cs:List Value) (w:World),fU w g (cp * es) cs->cs.length=n * es->n<=cp->i < j->j<=n->(∀ v∈cs,v.oneCell'=true) ->
   Calls P.P f #[.slice (some ⟨g,0,none⟩) n cp,.int .i64 i,.int .i64 j] w fun e w' =>
    e=.returned (.slice (some ⟨g,0,none⟩) (n - (j - i)) cp)/\fU w' g (cp * es) (cs.take (i * es) ++ cs.drop (j * es))/\Went w w' (fun b=>b=g)/\(kF w g->kF w' g))
  (xs:List D) (hs:∀ x∈xs,x.size=es) (i j:Nat) (hij:i < j) (hj:j<=xs.length) :
  wP P f false (.sl true es (iM xs)) [.int .i64 i,.int .i64 j] (fun x' rs=>(∃ u,x'=.lnk 0 u)/\rs=[.sl true es (iM (xs.take i ++ xs.drop j))]):=by
 intro M oc vs w hM hob hnd hlt hG hr
 obtain ⟨_,us1,f1,f2,rfl,e0,⟨rfl,rfl⟩,_,us2,f3,f4,rfl,e1,⟨rfl,rfl⟩,rfl,rfl⟩:=hr
 obtain ⟨cs0,hrep,hv⟩:=hob
 obtain ⟨hL,a,c,ds,fps,rfl,hc,h3,h4⟩:=hrep
 rw [dH] at hc hv
 simp only [if_true] at h4
 rcases h4 with ⟨rfl,_,_⟩|⟨g,rfl,hrow,hfp⟩
 ·omega
 have hone:=mN _ _ _ h3
 have hdl:ds.length=xs.length * es:=by rw [b7 _ _ _ h3,iU _ hs]
 have hv':vF false oc=.slice (some ⟨g,0,none⟩) xs.length c:=by
  show oc.v=_
  rw [hv]; rfl
 rw [hv']
 have hsp:xs=xs.take i ++ ((xs.drop i).take (j - i) ++ xs.drop j):=by
  have:xs.drop j=(xs.drop i).drop (j - i):=by rw [List.drop_drop]; congr 1; omega
  rw [this,List.take_append_drop,List.take_append_drop]
 have h3':=h3
 rw [hsp] at h3'
 obtain ⟨c1,c23,p1,p23,ed,ef,r1,r23⟩:=(d9 _ _ _ _).1 h3'
 obtain ⟨c2,c3,p2,p3,rfl,rfl,r2,r3⟩:=(d9 _ _ _ _).1 r23
 have l1:c1.length=i * es:=by
  rw [b7 _ _ _ r1,iU _ (fun y hy=>hs y (List.mem_of_mem_take hy)),List.length_take,Nat.min_eq_left (by omega)]
 have l2:c2.length=(j - i) * es:=by
  rw [b7 _ _ _ r2,iU _ (fun y hy=>hs y (List.mem_of_mem_drop (List.mem_of_mem_take hy))),List.length_take,List.length_drop,Nat.min_eq_left (by omega)]
 have t1:ds.take (i * es)=c1:=by rw [ed,<-l1,List.take_left]
 have t3:ds.drop (j * es)=c3:=by
  have:j * es=(c1 ++ c2).length:=by rw [List.length_append,l1,l2,<-Nat.add_mul]; congr 1; omega
  rw [ed,<-List.append_assoc,this,List.drop_left]
 refine (raw g xs.length c i j ds w hrow.1 hdl hc hij hj hone).mono ?_
 rintro e w' ⟨rfl,hrow',hw,hnm⟩
 rw [t1,t3] at hrow'
 rw [hfp,ef] at hnd hlt
 obtain ⟨hg,hnd⟩:=List.nodup_cons.1 hnd
 have n1:=List.nodup_append.1 hnd
 have n2:=List.nodup_append.1 n1.2.1
 have sub:∀ b∈g :: (p1 ++ p3),b∈oc.fp:=fun b hb=>by
  rw [hfp,ef]
  rcases List.mem_cons.1 hb with hb|hb
  ·simp [hb]
  ·rcases List.mem_append.1 hb with hb|hb<;>simp [hb]
 have hin:∀ b,b∈g :: (p1 ++ (p2 ++ p3))↔b∈oc.fp:=fun b=>by rw [hfp,ef]
 have frame:∀ (q:List D) (cs:List Value) (p:List Nat),(∀ b∈p,b≠g)->(iM q).rep w (fun b=>M b\/b∈oc.fp) cs p->(iM q).rep w' (fun b=>M b\/b∈[] ++ (g :: (p1 ++ p3))) cs p:=by
  intro q cs p hp hq
  refine cU hw.size (fun b _ h=>h.imp id (fun h=>sub b (by simpa using h))) _ _ _ (fun b hb hx=>hw.kept b hb fun e=>?_) hq
  subst e
  rcases hx with hx|hx
  ·exact hp _ hx rfl
  ·exact hx (.inr ((hin _).1 (by simp)))
 have nd:(g :: (p1 ++ p3)).Nodup:=by
  refine List.nodup_cons.2 ⟨fun h=>hg ?_,List.nodup_append.2 ⟨n1.1,n2.2.1,fun a ha b hb=>n1.2.2 a ha b (by simp [hb])⟩⟩
  rcases List.mem_append.1 h with h|h<;>simp [h]
 refine ⟨.lnk 0 oc.v,_,[.slice (some ⟨g,0,none⟩) (xs.length - (j - i)) c],[],g :: (p1 ++ p3),rfl,⟨⟨_,rfl⟩,rfl⟩,⟨[oc.v],⟨rfl,by rw [hv]; rfl,rfl⟩,rfl⟩,?_,by simpa using nd,fun b hb=>?_,?_⟩
 ·have hl':(xs.take i ++ xs.drop j).length=xs.length - (j - i):=by simp; omega
  refine ⟨[.slice (some ⟨g,0,none⟩) (xs.length - (j - i)) c],[],g :: (p1 ++ p3),[],rfl,by simp,⟨(iC _).2 fun y hy=>?_,some ⟨g,0,none⟩,c,c1 ++ c3,p1 ++ p3,by rw [dH,hl'],by rw [dH,hl']; omega,?_,?_⟩,rfl,rfl⟩
  ·rcases List.mem_append.1 hy with hy|hy
   ·exact hs y (List.mem_of_mem_take hy)
   ·exact hs y (List.mem_of_mem_drop hy)
  ·exact (d9 _ _ _ _).2 ⟨c1,c3,p1,p3,rfl,rfl,frame _ _ _ (fun b hb e=>hg (by simp [<- e,hb])) r1,frame _ _ _ (fun b hb e=>hg (by simp [<- e,hb])) r3⟩
  ·simp only [if_true]
   exact .inr ⟨g,rfl,⟨hrow',fun he=>hnm (hrow.2 he)⟩,rfl⟩
 ·have hb':b∈g :: (p1 ++ p3):=by simpa using hb
  exact ⟨.inl (sub b hb'),by have:=hlt b ((hin b).2 (sub b hb')); have:=hw.size; omega⟩
 ·exact ⟨hw.os,hw.tape,hw.output,hw.size,fun b hb hx=>hw.kept b hb fun e=>hx (sub b (by simp [e]))⟩
theorem aDK (g n cp i j:Nat) (cs:List Value) (w:World) (hrow:fU w g (cp * 4) cs) (hlen:cs.length=n * 4) (hn:n<=cp) (hij:i < j) (hj:j<=n) (h1:∀ v∈cs,v.oneCell'=true) :
  Calls Go.Proofs.Tryz.prog 120 #[.slice (some ⟨g,0,none⟩) n cp,.int .i64 i,.int .i64 j] w fun e w' =>
   e=.returned (.slice (some ⟨g,0,none⟩) (n - (j - i)) cp)/\fU w' g (cp * 4) (cs.take (i * 4) ++ cs.drop (j * 4))/\Went w w' (fun b=>b=g)/\(kF w g->kF w' g):=by
 obtain ⟨inf,hinf,hsize,hzero⟩:∃ inf,Go.Proofs.Tryz.prog.info? 69=some inf/\inf.size=4/\inf.zero=some (.agg #[.int .i64 0,.int .i64 0,.int .i64 0,.slice none 0 0]):=⟨_,rfl,rfl,rfl⟩
 have hu:Go.Proofs.Tryz.prog.underlying 24=some (.slice 69):=rfl
 obtain ⟨cur,E,hcur,hsz,htk⟩:=hrow
 have hfit:cs.length<=cur.toList.length:=by
  have e:cur.toList.length=cur.size:=by simp
  rw [e,hsz,hlen]
  exact Nat.mul_le_mul_right _ hn
 obtain ⟨news,hnews⟩:∃ news,news=cs.drop (j * 4):=⟨_,rfl⟩
 have hnl:news.length=(n - j) * inf.size:=by rw [hnews,List.length_drop,hlen,hsize]; omega
 obtain ⟨row1,hrow1⟩:∃ row1,row1=(cur.toList.take (i * inf.size) ++ news ++ cur.toList.drop (i * inf.size + news.length)).toArray:=⟨_,rfl⟩
 have hcurd:fZ w.drew g cur E:=hcur
 have hA:∃ A:Addr,(if cp=j then (some ⟨g,0,none⟩:Option Addr) else some ⟨g,j * 4,none⟩)=some A/\Hid (∀ t u,news[t]?=some u->w.drew.cell? (A.add t)=some u):=by
  by_cases h:cp=j
  ·refine ⟨⟨g,0,none⟩,by simp [h],fun t u hu=>?_⟩
   have h0:news=[]:=List.eq_nil_of_length_eq_zero (by rw [hnl,show n - j=0 by omega,Nat.zero_mul])
   rw [h0] at hu
   simp at hu
  ·refine ⟨⟨g,j * 4,none⟩,by simp [h],fun t u hu=>?_⟩
   rw [Addr.add_lit,hcurd.cell]
   rw [hnews,List.getElem?_drop,<-htk,List.getElem?_take] at hu
   split at hu
   ·simpa using hu
   ·cases hu
 obtain ⟨A,hA,hsrc⟩:=hA
 have s2:Hid (∀ u∈news,u.oneCell'=true):=fun u hu=>h1 u (by rw [hnews] at hu; exact List.mem_of_mem_drop hu)
 have hap:Hid (∀ ty,(Builtin.append_ #[24,24] ty #[.slice (some ⟨g,0,none⟩) i cp,.slice (some A) (n - j) (cp - j)]).run Go.Proofs.Tryz.prog w.drew=.ok (.slice (some ⟨g,0,none⟩) (i + (n - j)) cp) (w.drew.setRow g row1)):=fun ty=>by
  rw [hrow1]
  refine mO hu hinf g i cp cur hcurd A (n - j) (cp - j) news hnl hsrc.out s2.out (by omega) ?_
  rw [hnl,hsize,hsz,<-Nat.add_mul]
  exact Nat.mul_le_mul_right _ (by omega)
 have hr1s:row1.size=cur.size:=by
  rw [hrow1]
  simp only [List.size_toArray,List.length_append,List.length_take,List.length_drop,hnl,hsize,Array.length_toList,hsz]
  have:(i + (n - j)) * 4<=cp * 4:=Nat.mul_le_mul_right _ (by omega)
  omega
 obtain ⟨W1,hW1⟩:∃ W1,W1=w.drew.setRow g row1:=⟨_,rfl⟩
 have hcur1:fZ W1 g row1 E:=by rw [hW1]; exact hcurd.set hr1s
 have hW:Hid (W1=w.drew.setRow g row1):=hW1
 obtain ⟨row2,hrow2⟩:∃ row2,row2=(row1.toList.take ((i + (n - j)) * 4) ++ (madeCells ((.agg #[.int .i64 0,.int .i64 0,.int .i64 0,.slice none 0 0]):Value).cells ((n - (i + (n - j))) * ((.agg #[.int .i64 0,.int .i64 0,.int .i64 0,.slice none 0 0]):Value).cells.size)).toList ++ row1.toList.drop ((i + (n - j)) * 4 + (madeCells ((.agg #[.int .i64 0,.int .i64 0,.int .i64 0,.slice none 0 0]):Value).cells ((n - (i + (n - j))) * ((.agg #[.int .i64 0,.int .i64 0,.int .i64 0,.slice none 0 0]):Value).cells.size)).toList.length)).toArray:=⟨_,rfl⟩
 have hcl:∀ ty,(Builtin.clear_ #[24] ty #[.slice (some ⟨g,(i + (n - j)) * 4,none⟩) (n - (i + (n - j))) (cp - (i + (n - j)))]).run Go.Proofs.Tryz.prog W1=.ok (.tuple #[]) (W1.setRow g row2):=fun ty=>by
  rw [hrow2]
  refine aBM hu hinf hzero (by omega) hcur1 ?_ (by decide)
  show (i + (n - j)) * 4 + (n - (i + (n - j))) * 4<=row1.size
  rw [hr1s,hsz,<-Nat.add_mul]
  exact Nat.mul_le_mul_right _ (by omega)
 have hr2:Hid (row2=(row1.toList.take ((i + (n - j)) * 4) ++ (madeCells ((.agg #[.int .i64 0,.int .i64 0,.int .i64 0,.slice none 0 0]):Value).cells ((n - (i + (n - j))) * ((.agg #[.int .i64 0,.int .i64 0,.int .i64 0,.slice none 0 0]):Value).cells.size)).toList ++ row1.toList.drop ((i + (n - j)) * 4 + (madeCells ((.agg #[.int .i64 0,.int .i64 0,.int .i64 0,.slice none 0 0]):Value).cells ((n - (i + (n - j))) * ((.agg #[.int .i64 0,.int .i64 0,.int .i64 0,.slice none 0 0]):Value).cells.size)).toList.length)).toArray):=hrow2
 have mixed:Go.Proofs.Tryz.prog.follows .mixedOrders=true:=rfl
 have hic:i<=cp:=by omega
 have hjc:j<=cp:=by omega
 have hnt:Go.Proofs.Tryz.f120.ntmps=33:=rfl
 have hlt:i<=j:=by omega
 have hne:¬ ((i:Int)=(j:Int)):=by omega
 have hk1:inf.size=4:=hsize
 have X0:Aside (cs.length=n * 4):=hlen
 have X8:Aside (fZ w.drew g cur E):=hcurd
 have X1:Aside (fZ W1 g row1 E):=hcur1
 have X2:Aside (row1=(cur.toList.take (i * inf.size) ++ news ++ cur.toList.drop (i * inf.size + news.length)).toArray):=hrow1
 have X3:Aside (news=cs.drop (j * 4)):=hnews
 have X4:Aside (cur.toList.take cs.length=cs):=htk
 have X5:Aside (news.length=(n - j) * inf.size):=hnl
 have X6:Aside (row1.size=cur.size):=hr1s
 have X7:Aside (cur.size=cp * 4):=hsz
 clear hcur1 hrow1 hnews htk hnl hr1s hrow2 hW1 hsz hfit hcur hcurd hlen
 try simp only [Nat.mul_one] at hA hcl
 go_enter Go.Proofs.Tryz.func120,hnt
 go_wp2_with fail
 go_region_law_o (refine vC rfl (.tmp 22) (.tmp 25) 24 24 rfl _ _ (by simp [Act.eval,Act.put]) (by simp [Act.eval,Act.put]) (hap.out _) ?_; rw [<- hW.out])
 go_wp2
 go_ret
 have hcur1:=X1.out
 have hrow1:=X2.out
 have hnews:=X3.out
 have htk:=X4.out
 have hnl:=X5.out
 have hr1s:=X6.out
 have hsz:=X7.out
 have hlen:=X0.out
 have hr2:=hr2.out
 have hW:=hW.out
 rw [hk1] at hrow1 hnl
 have hz:(madeCells ((.agg #[.int .i64 0,.int .i64 0,.int .i64 0,.slice none 0 0]):Value).cells ((n - (i + (n - j))) * ((.agg #[.int .i64 0,.int .i64 0,.int .i64 0,.slice none 0 0]):Value).cells.size)).toList.length=(n - (i + (n - j))) * 4:=by
  rw [Array.length_toList,size_madeCells]; rfl
 generalize (madeCells ((.agg #[.int .i64 0,.int .i64 0,.int .i64 0,.slice none 0 0]):Value).cells ((n - (i + (n - j))) * ((.agg #[.int .i64 0,.int .i64 0,.int .i64 0,.slice none 0 0]):Value).cells.size)).toList=zs at hz hr2
 have hle:(i + (n - j)) * 4<=row1.toList.length:=by
  rw [Array.length_toList,hr1s,hsz]
  exact Nat.mul_le_mul_right _ (by omega)
 have hle2:(i + (n - j)) * 4 + (n - (i + (n - j))) * 4<=row1.toList.length:=by
  rw [<- Nat.add_mul,Array.length_toList,hr1s,hsz]
  exact Nat.mul_le_mul_right _ (by omega)
 have hr2s:row2.size=row1.size:=by
  rw [hr2,List.size_toArray,List.length_append,List.length_append,List.length_take,List.length_drop,hz,Nat.min_eq_left hle]
  rw [Array.length_toList] at hle2 ⊢
  omega
 have hcl2:(i + (n - j)) * 4=i * 4 + (n - j) * 4:=Nat.add_mul _ _ _
 have hlt1:(cs.take (i * 4)).length=i * 4:=by
  rw [List.length_take,hlen]
  exact Nat.min_eq_left (Nat.mul_le_mul_right _ (by omega))
 have hct:cur.toList.take (i * 4)=cs.take (i * 4):=by
  rw [<- htk,List.take_take]
  congr 1
  rw [hlen]
  exact (Nat.min_eq_left (Nat.mul_le_mul_right _ (by omega))).symm
 refine ⟨congrArg Ending.returned (show Value.slice (some ⟨g,0,none⟩) (i + (n - j)) cp=_ by rw [show i + (n - j)=n - (j - i) by omega]),⟨row2,E,hcur1.set hr2s,by rw [hr2s,hr1s,hsz],?_⟩,?_,fun hn=>?_⟩
 ·have e1:(cs.take (i * 4) ++ cs.drop (j * 4)).length=(i + (n - j)) * 4:=by
   rw [List.length_append,hlt1,<-hnews,hnl,hcl2]
  rw [e1,hr2]
  show (row1.toList.take ((i + (n - j)) * 4) ++ zs ++ _).take ((i + (n - j)) * 4)=_
  rw [List.append_assoc,List.take_left' (by rw [List.length_take]; exact Nat.min_eq_left hle),hrow1]
  show (cur.toList.take (i * 4) ++ news ++ _).take ((i + (n - j)) * 4)=_
  rw [List.take_left' (by rw [List.length_append,hct,hlt1,hnl,hcl2]),hct,hnews]
 ·rw [hW]
  have h1:Went w w.drew (fun b=>b=g):=⟨rfl,rfl,rfl,Nat.le_refl _,fun _ _ _=>rfl⟩
  have h2:=eC w.drew g row1
  have h3:=eC (w.drew.setRow g row1) g row2
  refine ⟨h3.os.trans (h2.os.trans h1.os),h3.tape.trans (h2.tape.trans h1.tape),h3.output.trans (h2.output.trans h1.output),Nat.le_trans h1.size (Nat.le_trans h2.size h3.size),fun b hb hx=>?_⟩
  rw [h3.kept b (by simpa using hb) hx,h2.kept b hb hx]
  rfl
 ·refine kF.set hcur1 ?_
  rw [hW]
  exact kF.set X8.out (fun cur E fz e=>hn cur E fz e)
theorem aCH (g n cp i j:Nat) (cs:List Value) (w:World) (hrow:fU w g (cp * 1) cs) (hlen:cs.length=n * 1) (hn:n<=cp) (hij:i < j) (hj:j<=n) (h1:∀ v∈cs,v.oneCell'=true) :
  Calls Go.Proofs.Tryz.prog 102 #[.slice (some ⟨g,0,none⟩) n cp,.int .i64 i,.int .i64 j] w fun e w' =>
   e=.returned (.slice (some ⟨g,0,none⟩) (n - (j - i)) cp)/\fU w' g (cp * 1) (cs.take (i * 1) ++ cs.drop (j * 1))/\Went w w' (fun b=>b=g)/\(kF w g->kF w' g):=by
 obtain ⟨inf,hinf,hsize,hzero⟩:∃ inf,Go.Proofs.Tryz.prog.info? 3=some inf/\inf.size=1/\inf.zero=some (.int .i64 0):=⟨_,rfl,rfl,rfl⟩
 have hu:Go.Proofs.Tryz.prog.underlying 36=some (.slice 3):=rfl
 obtain ⟨cur,E,hcur,hsz,htk⟩:=hrow
 have hfit:cs.length<=cur.toList.length:=by
  have e:cur.toList.length=cur.size:=by simp
  rw [e,hsz,hlen]
  exact Nat.mul_le_mul_right _ hn
 obtain ⟨news,hnews⟩:∃ news,news=cs.drop (j * 1):=⟨_,rfl⟩
 have hnl:news.length=(n - j) * inf.size:=by rw [hnews,List.length_drop,hlen,hsize]; omega
 obtain ⟨row1,hrow1⟩:∃ row1,row1=(cur.toList.take (i * inf.size) ++ news ++ cur.toList.drop (i * inf.size + news.length)).toArray:=⟨_,rfl⟩
 have hcurd:fZ w.drew g cur E:=hcur
 have hA:∃ A:Addr,(if cp=j then (some ⟨g,0,none⟩:Option Addr) else some ⟨g,j * 1,none⟩)=some A/\Hid (∀ t u,news[t]?=some u->w.drew.cell? (A.add t)=some u):=by
  by_cases h:cp=j
  ·refine ⟨⟨g,0,none⟩,by simp [h],fun t u hu=>?_⟩
   have h0:news=[]:=List.eq_nil_of_length_eq_zero (by rw [hnl,show n - j=0 by omega,Nat.zero_mul])
   rw [h0] at hu
   simp at hu
  ·refine ⟨⟨g,j * 1,none⟩,by simp [h],fun t u hu=>?_⟩
   rw [Addr.add_lit,hcurd.cell]
   rw [hnews,List.getElem?_drop,<-htk,List.getElem?_take] at hu
   split at hu
   ·simpa using hu
   ·cases hu
 obtain ⟨A,hA,hsrc⟩:=hA
 have s2:Hid (∀ u∈news,u.oneCell'=true):=fun u hu=>h1 u (by rw [hnews] at hu; exact List.mem_of_mem_drop hu)
 have hap:Hid (∀ ty,(Builtin.append_ #[36,36] ty #[.slice (some ⟨g,0,none⟩) i cp,.slice (some A) (n - j) (cp - j)]).run Go.Proofs.Tryz.prog w.drew=.ok (.slice (some ⟨g,0,none⟩) (i + (n - j)) cp) (w.drew.setRow g row1)):=fun ty=>by
  rw [hrow1]
  refine mO hu hinf g i cp cur hcurd A (n - j) (cp - j) news hnl hsrc.out s2.out (by omega) ?_
  rw [hnl,hsize,hsz,<-Nat.add_mul]
  exact Nat.mul_le_mul_right _ (by omega)
 have hr1s:row1.size=cur.size:=by
  rw [hrow1]
  simp only [List.size_toArray,List.length_append,List.length_take,List.length_drop,hnl,hsize,Array.length_toList,hsz]
  have:(i + (n - j)) * 1<=cp * 1:=Nat.mul_le_mul_right _ (by omega)
  omega
 obtain ⟨W1,hW1⟩:∃ W1,W1=w.drew.setRow g row1:=⟨_,rfl⟩
 have hcur1:fZ W1 g row1 E:=by rw [hW1]; exact hcurd.set hr1s
 have hW:Hid (W1=w.drew.setRow g row1):=hW1
 obtain ⟨row2,hrow2⟩:∃ row2,row2=(row1.toList.take ((i + (n - j)) * 1) ++ (madeCells ((.int .i64 0):Value).cells ((n - (i + (n - j))) * ((.int .i64 0):Value).cells.size)).toList ++ row1.toList.drop ((i + (n - j)) * 1 + (madeCells ((.int .i64 0):Value).cells ((n - (i + (n - j))) * ((.int .i64 0):Value).cells.size)).toList.length)).toArray:=⟨_,rfl⟩
 have hcl:∀ ty,(Builtin.clear_ #[36] ty #[.slice (some ⟨g,(i + (n - j)) * 1,none⟩) (n - (i + (n - j))) (cp - (i + (n - j)))]).run Go.Proofs.Tryz.prog W1=.ok (.tuple #[]) (W1.setRow g row2):=fun ty=>by
  rw [hrow2]
  refine aBM hu hinf hzero (by omega) hcur1 ?_ (by decide)
  show (i + (n - j)) * 1 + (n - (i + (n - j))) * 1<=row1.size
  rw [hr1s,hsz,<-Nat.add_mul]
  exact Nat.mul_le_mul_right _ (by omega)
 have hr2:Hid (row2=(row1.toList.take ((i + (n - j)) * 1) ++ (madeCells ((.int .i64 0):Value).cells ((n - (i + (n - j))) * ((.int .i64 0):Value).cells.size)).toList ++ row1.toList.drop ((i + (n - j)) * 1 + (madeCells ((.int .i64 0):Value).cells ((n - (i + (n - j))) * ((.int .i64 0):Value).cells.size)).toList.length)).toArray):=hrow2
 have mixed:Go.Proofs.Tryz.prog.follows .mixedOrders=true:=rfl
 have hic:i<=cp:=by omega
 have hjc:j<=cp:=by omega
 have hnt:Go.Proofs.Tryz.f102.ntmps=33:=rfl
 have hlt:i<=j:=by omega
 have hne:¬ ((i:Int)=(j:Int)):=by omega
 have hk1:inf.size=1:=hsize
 have X0:Aside (cs.length=n * 1):=hlen
 have X8:Aside (fZ w.drew g cur E):=hcurd
 have X1:Aside (fZ W1 g row1 E):=hcur1
 have X2:Aside (row1=(cur.toList.take (i * inf.size) ++ news ++ cur.toList.drop (i * inf.size + news.length)).toArray):=hrow1
 have X3:Aside (news=cs.drop (j * 1)):=hnews
 have X4:Aside (cur.toList.take cs.length=cs):=htk
 have X5:Aside (news.length=(n - j) * inf.size):=hnl
 have X6:Aside (row1.size=cur.size):=hr1s
 have X7:Aside (cur.size=cp * 1):=hsz
 clear hcur1 hrow1 hnews htk hnl hr1s hrow2 hW1 hsz hfit hcur hcurd hlen
 try simp only [Nat.mul_one] at hA hcl
 go_enter Go.Proofs.Tryz.func102,hnt
 go_wp2_with fail
 go_region_law_o (refine vC rfl (.tmp 22) (.tmp 25) 36 36 rfl _ _ (by simp [Act.eval,Act.put]) (by simp [Act.eval,Act.put]) (hap.out _) ?_; rw [<- hW.out])
 go_wp2
 go_ret
 have hcur1:=X1.out
 have hrow1:=X2.out
 have hnews:=X3.out
 have htk:=X4.out
 have hnl:=X5.out
 have hr1s:=X6.out
 have hsz:=X7.out
 have hlen:=X0.out
 have hr2:=hr2.out
 have hW:=hW.out
 rw [hk1] at hrow1 hnl
 have hz:(madeCells ((.int .i64 0):Value).cells ((n - (i + (n - j))) * ((.int .i64 0):Value).cells.size)).toList.length=(n - (i + (n - j))) * 1:=by
  rw [Array.length_toList,size_madeCells]; rfl
 generalize (madeCells ((.int .i64 0):Value).cells ((n - (i + (n - j))) * ((.int .i64 0):Value).cells.size)).toList=zs at hz hr2
 have hle:(i + (n - j)) * 1<=row1.toList.length:=by
  rw [Array.length_toList,hr1s,hsz]
  exact Nat.mul_le_mul_right _ (by omega)
 have hle2:(i + (n - j)) * 1 + (n - (i + (n - j))) * 1<=row1.toList.length:=by
  rw [<- Nat.add_mul,Array.length_toList,hr1s,hsz]
  exact Nat.mul_le_mul_right _ (by omega)
 have hr2s:row2.size=row1.size:=by
  rw [hr2,List.size_toArray,List.length_append,List.length_append,List.length_take,List.length_drop,hz,Nat.min_eq_left hle]
  rw [Array.length_toList] at hle2 ⊢
  omega
 have hcl2:(i + (n - j)) * 1=i * 1 + (n - j) * 1:=Nat.add_mul _ _ _
 have hlt1:(cs.take (i * 1)).length=i * 1:=by
  rw [List.length_take,hlen]
  exact Nat.min_eq_left (Nat.mul_le_mul_right _ (by omega))
 have hct:cur.toList.take (i * 1)=cs.take (i * 1):=by
  rw [<- htk,List.take_take]
  congr 1
  rw [hlen]
  exact (Nat.min_eq_left (Nat.mul_le_mul_right _ (by omega))).symm
 refine ⟨congrArg Ending.returned (show Value.slice (some ⟨g,0,none⟩) (i + (n - j)) cp=_ by rw [show i + (n - j)=n - (j - i) by omega]),⟨row2,E,hcur1.set hr2s,by rw [hr2s,hr1s,hsz],?_⟩,?_,fun hn=>?_⟩
 ·have e1:(cs.take (i * 1) ++ cs.drop (j * 1)).length=(i + (n - j)) * 1:=by
   rw [List.length_append,hlt1,<-hnews,hnl,hcl2]
  rw [e1,hr2]
  show (row1.toList.take ((i + (n - j)) * 1) ++ zs ++ _).take ((i + (n - j)) * 1)=_
  rw [List.append_assoc,List.take_left' (by rw [List.length_take]; exact Nat.min_eq_left hle),hrow1]
  show (cur.toList.take (i * 1) ++ news ++ _).take ((i + (n - j)) * 1)=_
  rw [List.take_left' (by rw [List.length_append,hct,hlt1,hnl,hcl2]),hct,hnews]
 ·rw [hW]
  have h1:Went w w.drew (fun b=>b=g):=⟨rfl,rfl,rfl,Nat.le_refl _,fun _ _ _=>rfl⟩
  have h2:=eC w.drew g row1
  have h3:=eC (w.drew.setRow g row1) g row2
  refine ⟨h3.os.trans (h2.os.trans h1.os),h3.tape.trans (h2.tape.trans h1.tape),h3.output.trans (h2.output.trans h1.output),Nat.le_trans h1.size (Nat.le_trans h2.size h3.size),fun b hb hx=>?_⟩
  rw [h3.kept b (by simpa using hb) hx,h2.kept b hb hx]
  rfl
 ·refine kF.set hcur1 ?_
  rw [hW]
  exact kF.set X8.out (fun cur E fz e=>hn cur E fz e)
theorem aE8 (xs:List D) (hs:∀ x∈xs,x.size=4) (i j:Nat) (hij:i < j) (hj:j<=xs.length):wP prog 120 false (.sl true 4 (iM xs)) [.int .i64 i,.int .i64 j] (fun x' rs=>(∃ u,x'=.lnk 0 u)/\rs=[.sl true 4 (iM (xs.take i ++ xs.drop j))]) :=
 aFR 4 (fun g n cp i j cs w h1 h2 h3 h4 h5 h6=>aDK g n cp i j cs w h1 h2 h3 h4 h5 h6) xs hs i j hij hj
theorem aEy (v:List Int) (i j:Nat) (hij:i < j) (hj:j<=v.length):wP prog 102 false (.sl true 1 (dl iD v)) [.int .i64 i,.int .i64 j] (fun x' rs=>(∃ u,x'=.lnk 0 u)/\rs=[.sl true 1 (dl iD (v.take i ++ v.drop j))]):=by
 have h:=aFR (P:=prog) (f:=102) 1 (fun g n cp i j cs w h1 h2 h3 h4 h5 h6=>aCH g n cp i j cs w h1 h2 h3 h4 h5 h6) (v.map iD) (fun x hx=>by obtain ⟨n,_,rfl⟩:=List.mem_map.1 hx; rfl) i j hij (by simpa using hj)
 rw [<- List.map_take,<-List.map_drop,<-List.map_append] at h
 exact h
end Go.Pe.Tryz
set_option maxRecDepth 100000
set_option maxHeartbeats 4000000
set_option linter.all false
namespace Go.Pe.Tryz
open Nat (reduceEqDiff reduceAdd reduceSub reduceLT)
open Go Go.RowKit Go.Shelf Go.Lib Go.Proofs.Tryz
theorem mK {P:Program} {w:World} {t ty e E:TypeId} {i:TypeInfo} (ht:P.underlying t=some (.slice e)) (hi:P.info? e=some i) {g off dn dc:Nat} {cur:Array Value} (hg:fZ w g cur E)
  (a:Addr) (sn sc:Nat) (news:List Value) (hl:news.length=Nat.min sn dn * i.size) (hnews:∀ j u,news[j]?=some u->w.cell? (a.add j)=some u) (h1:∀ u∈news,u.oneCell'=true) (hfit:off + news.length<=cur.size) :
  (Builtin.copy_ #[t,t] ty #[.slice (some ⟨g,off,none⟩) dn dc,.slice (some a) sn sc]).run P w=.ok (goInt (Nat.min sn dn)) (w.setRow g (cur.toList.take off ++ news ++ cur.toList.drop (off + news.length)).toArray):=by
 have hf:=run_firstCells_some (P:=P) w i.size (Nat.min sn dn) a sn sc news hl hnews
 have hst:=gS P g off E news 0 cur w hg (by simpa using hfit) h1
 simp only [Nat.add_zero] at hst
 simp [Builtin.copy_,run_underlying ht,sizeOf,typeInfo,hi,Builtin.lenOf,hf,hst]
theorem sQ {P:Program} {ops:Array Oper} {o:Oper} {a:Act} {w:World} {K:Act->World->Prop} {Q:Exit->Act->World->Prop} {E:Prop}
  (hg:o.guard=none) (d x:Operand) (dT sT:TypeId) (hop:o.op=Op.call { callee:=Callee.builtin Builtin.copy,args:=#[d,x],argTypes:=#[dT,sT] })
  (v u:Value) (hd:a.eval d=v) (hx:a.eval x=u) {v':Value} {w':World} (hr:(Builtin.copy_ #[dT,sT] o.type #[v,u]).run P w=.ok v' w') (hK:K (a.put o.dst v') w') :
  if Region.wanted o (yielded ops a.tmps)=true then Oper.wp P o a w K Q else E:=by
 have hw:Region.wanted o (yielded ops a.tmps)=true:=by simp [Region.wanted,hg]
 rw [if_pos hw]
 unfold Oper.wp
 simp [execOp,hop,resolve,invoke,builtin,hd,hx,hr,Result.andThen]
 exact hK
def aFH (w:World) (es:Nat) (a:Option Addr) (n c:Nat) (cs:List Value):Prop :=
 cs.length=n * es/\n<=c/\((c=0)\/∃ g,a=some ⟨g,0,none⟩/\aAF w g es (c * es) cs)
def uX (w:World) (es:Nat) (a:Option Addr) (c0 n:Nat) (cs:List Value) (v:Value) (w':World):Prop :=
 ∃ g c,v=.slice (some ⟨g,0,none⟩) n c/\n<=c/\aAF w' g es (c * es) cs/\(w.heap.size<=g\/(c0≠0/\a=some ⟨g,0,none⟩))/\Went w w' (fun b=>c0≠0/\a=some ⟨b,0,none⟩)
theorem aHk:∃ inf,Go.Proofs.Tryz.prog.info? 69=some inf/\inf.size=4/\inf.bytes=48/\inf.zero=some (.agg #[.int .i64 0,.int .i64 0,.int .i64 0,.slice none 0 0]):=⟨_,rfl,rfl,rfl,rfl⟩
theorem pX:Go.Proofs.Tryz.prog.underlying 24=some (.slice 69):=rfl
theorem aJ9 (a:Option Addr) (n c vc:Nat) (va:Addr) (cs vs:List Value) (w:World) (h:aFH w 4 a n c cs) (hvl:vs.length=4) (hv:∀ j u,vs[j]?=some u->w.cell? (va.add j)=some u) (h1:∀ v∈vs,v.oneCell'=true) (hn:n<=1048576) :
  ∃ v' w',(∀ ty,(Builtin.append_ #[24,24] ty #[.slice a n c,.slice (some va) 1 vc]).run Go.Proofs.Tryz.prog w=.ok v' w')/\uX w 4 a c (n + 1) (cs ++ vs) v' w':=by
 obtain ⟨hl,hc,h⟩:=h
 obtain ⟨inf,hinf,hsize,hbytes,hzero⟩:=aHk
 have hvl':vs.length=1 * inf.size:=by rw [hsize,hvl]
 have hext:∀ (ob:Obj) (X:Nat->Prop),Went w (w.drew.alloc ob) X:=fun ob X=>Went.of_ext (uB w ob) X
 rcases h with rfl|⟨g,rfl,hrow⟩
 ·have h0:n=0:=by omega
  subst h0
  have hcs:cs=[]:=List.eq_nil_of_length_eq_zero (by simpa using hl)
  subst hcs
  refine ⟨_,_,fun ty=>p9 (ty:=ty) pX hinf hzero a va 1 vc vs hvl' hv (by omega) (by omega) (by rw [hbytes]; omega),?_⟩
  have hge:=grownCap_ge w 1 0 69
  refine ⟨w.heap.size,_,rfl,hge,⟨⟨_,_,fZ.new w.drew _ _,?_,by simp⟩,fun _=>kF.new w.drew _ _⟩,.inl (Nat.le_refl _),hext _ _⟩
  rw [Array.size_append,List.size_toArray,size_zeroCells,hvl]
  show 4 + (grownCap w 1 0 _ - 1) * 4=_
  omega
 ·obtain ⟨⟨cur,E,hcur,hsz,htk⟩,hnm⟩:=hrow
  by_cases hroom:n + 1<=c
  ·have hfit:n * inf.size + vs.length<=cur.size:=by
    rw [hsize,hvl,hsz]; omega
   refine ⟨_,_,fun ty=>mO (ty:=ty) pX hinf g n c cur hcur va 1 vc vs hvl' hv h1 hroom hfit,?_⟩
   refine ⟨g,c,rfl,hroom,⟨⟨_,E,hcur.set ?_,?_,?_⟩,fun he=>(hnm he).set hcur⟩,.inr ⟨by omega,rfl⟩,?_⟩
   ·simp only [List.size_toArray,List.length_append,List.length_take,List.length_drop,Array.length_toList]
    rw [Nat.min_eq_left (by omega)]; omega
   ·rw [<- hsz]
    simp only [List.size_toArray,List.length_append,List.length_take,List.length_drop]
    have:cur.toList.length=cur.size:=by simp
    rw [Nat.min_eq_left (by omega)]; omega
   ·have e1:cur.toList.take (n * inf.size)=cs:=by rw [hsize,<-hl]; exact htk
    show (cur.toList.take (n * inf.size) ++ vs ++ _).take (cs ++ vs).length=_
    rw [e1,List.take_left]
   ·have:=eC w g (cur.toList.take (n * inf.size) ++ vs ++ cur.toList.drop (n * inf.size + vs.length)).toArray
    exact ⟨this.os,this.tape,this.output,this.size,fun b hb hx=>this.kept b hb fun e=>hx ⟨by omega,by rw [e]⟩⟩
  ·have hcell0:∀ j u,cs[j]?=some u->w.cell? ((⟨g,0,none⟩:Addr).add j)=some u:=by
    have:=iO.of_row (M:=fun _=>False) (⟨cur,E,hcur,hsz,htk⟩:fU w g _ cs) (fun h=>h)
    rcases this with h8|h8
    ·exact fun j u hu=>by rw [h8] at hu; simp at hu
    ·exact h8.2.2
   refine ⟨_,_,fun ty=>run_append_grow (P:=Go.Proofs.Tryz.prog) w _ ty _ inf _ pX hinf hzero ⟨g,0,none⟩ n c cs (by rw [hsize]; exact hl) hcell0 va 1 vc vs hvl' hv (by omega) (by omega) (by rw [hbytes]; exact growslice_fits (by omega) (by omega)),?_⟩
   have hge:=grownCap_ge w (n + 1) c 69
   refine ⟨w.heap.size,_,rfl,hge,⟨⟨_,_,fZ.new w.drew _ _,?_,?_⟩,fun _=>kF.new w.drew _ _⟩,.inl (Nat.le_refl _),hext _ _⟩
   ·rw [Array.size_append,Array.size_append,List.size_toArray,List.size_toArray,size_zeroCells,hvl,hl]
    show n * 4 + 4 + (grownCap w (n + 1) c _ - (n + 1)) * 4=_
    omega
   ·rw [Array.toList_append,Array.toList_append]; exact List.take_left
theorem w5 (a:Option Addr) (n c vc:Nat) (va:Addr) (cs vs:List Value) (w:World) (h:aFH w 4 a n c cs) (hvl:vs.length=4) (hv:∀ j u,vs[j]?=some u->w.cell? (va.add j)=some u) (h1:∀ v∈vs,v.oneCell'=true) (hn:n<=1048576) :
  Calls Go.Proofs.Tryz.prog 71 #[.slice a n c,.int .i64 n,.slice (some va) 1 vc] w fun e w'=>∃ v,e=.returned v/\uX w 4 a c (n + 1) (cs ++ vs) v w':=by
 obtain ⟨v',w',hrun,hG⟩:=aJ9 a n c vc va cs vs w h hvl hv h1 hn
 have hc:=h.2.1
 clear h hv h1
 have mixed:Go.Proofs.Tryz.prog.follows .mixedOrders=true:=rfl
 have hnt:Go.Proofs.Tryz.f71.ntmps=95:=rfl
 have hG':Hid (uX w 4 a c (n + 1) (cs ++ vs) v' w'):=hG
 clear hG
 go_enter Go.Proofs.Tryz.func71,hnt
 cases a with
 | none =>
  go_wp2_with (at_builtin; refine Lib.wpList_append_run _ rfl _ _ _ _ rfl _ _ rfl rfl _ _ (hrun _) ?_)
  all_goals (go_ret; first|exact ⟨v',rfl,hG'.out⟩|(have hx:=hG'.out; rw [‹c=n›] at hx; exact ⟨v',rfl,hx⟩))
 | some ad =>
  obtain ⟨ab,ao,asp⟩:=ad
  go_wp2_with (at_builtin; refine Lib.wpList_append_run _ rfl _ _ _ _ rfl _ _ rfl rfl _ _ (hrun _) ?_)
  all_goals (go_ret; first|exact ⟨v',rfl,hG'.out⟩|(have hx:=hG'.out; rw [‹c=n›] at hx; exact ⟨v',rfl,hx⟩))
theorem aEN {cs:List Value} {cur:List Value} (h:cur.take cs.length=cs) {k:Nat} (hk:k<=cs.length):cur.take k=cs.take k:=by
 conv=>rhs; rw [<- h]
 rw [List.take_take,Nat.min_eq_left hk]
theorem aCn (g n c i vc:Nat) (va:Addr) (cs vs:List Value) (w:World) (hl:cs.length=n * 4) (hc:n<=c) (hrow:aAF w g 4 (c * 4) cs) (hvl:vs.length=4) (hv:∀ j u,vs[j]?=some u->w.cell? (va.add j)=some u) (h1:∀ v∈vs,v.oneCell'=true) (h1c:∀ v∈cs,v.oneCell'=true) (hn:n<=1048576) (hi:i < n) (hfull:c < n + 1) :
  Calls Go.Proofs.Tryz.prog 71 #[.slice (some ⟨g,0,none⟩) n c,.int .i64 i,.slice (some va) 1 vc] w fun e w'=>∃ v,e=.returned v/\uX w 4 (some ⟨g,0,none⟩) c (n + 1) (cs.take (i * 4) ++ vs ++ cs.drop (i * 4)) v w':=by
 obtain ⟨inf,hinf,hsize,hbytes,hzero⟩:=aHk
 obtain ⟨⟨cur,E,hcur,hsz,htk⟩,hnm⟩:=hrow
 have hfit:cs.length<=cur.toList.length:=by
  have e:cur.toList.length=cur.size:=by simp
  rw [e,hsz,hl]; omega
 have hcell:∀ j u,cs[j]?=some u->w.cell? ⟨g,j,none⟩=some u:=fun j u hu=>by
  rw [hcur.cell,<-Array.getElem?_toList]
  rw [<- htk,List.getElem?_take] at hu
  split at hu
  ·exact hu
  ·cases hu
 have hgl:=hcur.lt
 have hvl':vs.length=Nat.min 1 (n + 1 - i) * inf.size:=by
  rw [hsize,hvl,show Nat.min 1 (n + 1 - i)=1 from Nat.min_eq_left (by omega)]
 have hva:va.block < w.heap.size:=by
  obtain ⟨u,hu⟩:=cK (show 0 < vs.length by omega)
  have:=block_lt_of_cell (hv 0 u hu)
  rwa [show (va.add 0).block=va.block from by unfold Addr.add; split<;>rfl] at this
 have hkk:(n:Int) + (1:Int) - (i:Int)=((n + 1 - i:Nat):Int):=by omega
 have hik:i + (n + 1 - i)=n + 1:=by omega
 have hold:(Builtin.firstCells inf.size i (.slice (some ⟨g,0,none⟩) i c)).run Go.Proofs.Tryz.prog w.drew=.ok (cs.take (i * 4)).toArray w.drew :=
  run_firstCells_some w.drew inf.size i ⟨g,0,none⟩ i c (cs.take (i * 4)) (by rw [List.length_take,hl,hsize]; omega) (fun j v hj=>by
   rw [Addr.add_lit,Nat.zero_add]
   rw [List.getElem?_take] at hj
   split at hj
   ·exact hcell j v hj
   ·cases hj)
 obtain ⟨G,hG⟩:∃ G,G=grownCap w (n + 1) c 69:=⟨_,rfl⟩
 obtain ⟨N,hN⟩:∃ N,N=w.heap.size:=⟨_,rfl⟩
 have hGn:n + 1<=G:=by rw [hG]; exact grownCap_ge w _ _ _
 obtain ⟨ROW,hROW⟩:∃ ROW:Array Value,ROW=(cs.take (i * 4)).toArray ++ Builtin.zeroCells (Value.agg #[.int .i64 0,.int .i64 0,.int .i64 0,.slice none 0 0]).cells (n + 1 - i) ++ Builtin.zeroCells (Value.agg #[.int .i64 0,.int .i64 0,.int .i64 0,.slice none 0 0]).cells (G - (n + 1)):=⟨_,rfl⟩
 obtain ⟨W1,hW1⟩:∃ W1,W1=w.drew.alloc (.cells ROW 69):=⟨_,rfl⟩
 have hrz:∀ ty,(Builtin.append_ #[24,3] ty #[.slice (some ⟨g,0,none⟩) i c,.int .i64 ((n:Int) + (1:Int) - (i:Int))]).run Go.Proofs.Tryz.prog w=.ok (.slice (some ⟨N,0,none⟩) (n + 1) G) W1:=fun ty=>by
  have h:=Lib.run_append_grow_zeros (P:=Go.Proofs.Tryz.prog) w 24 3 ty 69 inf _ .i64 .i64 pX rfl hinf hzero (some ⟨g,0,none⟩) i c (cs.take (i * 4)) hold (n + 1 - i) (by omega) (by omega) (by omega) (by omega) (by rw [hbytes]; omega) (by rw [hbytes,hik]; exact growslice_fits (by omega) (by omega))
  rw [hik,<-hG,<-hROW,<-hW1,<-hN] at h
  rw [hkk]
  exact h
 have hRl:ROW.size=G * 4:=by
  rw [hROW,Array.size_append,Array.size_append,List.size_toArray,size_zeroCells,size_zeroCells,List.length_take,hl,Nat.min_eq_left (by omega)]
  show i * 4 + (n + 1 - i) * 4 + (G - (n + 1)) * 4=_
  omega
 have hRt:ROW.toList.take (i * 4)=cs.take (i * 4):=by
  rw [hROW,Array.toList_append,Array.toList_append,List.append_assoc]
  exact List.take_left' (by rw [List.length_take,hl]; omega)
 have hc1:fZ W1 N ROW 69:=by rw [hW1,hN]; exact fZ.new w.drew _ _
 have hm1:kF W1 N:=by rw [hW1,hN]; exact kF.new w.drew _ _
 have hx1:kP w W1:=by rw [hW1]; exact uB w _
 obtain ⟨row2,hrow2⟩:∃ row2,row2=(ROW.toList.take (i * 4) ++ vs ++ ROW.toList.drop (i * 4 + vs.length)).toArray:=⟨_,rfl⟩
 obtain ⟨W2,hW2⟩:∃ W2,W2=W1.setRow N row2:=⟨_,rfl⟩
 have hRL:ROW.toList.length=ROW.size:=by simp
 have h2s:row2.size=ROW.size:=by
  rw [hrow2,List.size_toArray,List.length_append,List.length_append,List.length_take,List.length_drop,hvl,hRL,hRl]
  omega
 have hcpA:∀ ty dc,(Builtin.copy_ #[24,24] ty #[.slice (some ⟨N,i * 4,none⟩) (n + 1 - i) dc,.slice (some va) 1 vc]).run Go.Proofs.Tryz.prog W1=.ok (goInt (Nat.min 1 (n + 1 - i))) W2:=fun ty dc=>by
  rw [hW2,hrow2]
  refine mK pX hinf hc1 va 1 vc vs hvl' (fun j u hu=>?_) h1 (by rw [hvl,hRl]; omega)
  rw [World.cell?_of_block (w:=w) (by rw [show (va.add j).block=va.block from by unfold Addr.add; split<;>rfl]; exact hx1.block _ hva)]
  exact hv j u hu
 have hc2:fZ W2 N row2 69:=by rw [hW2]; exact hc1.set h2s
 have hm2:kF W2 N:=by rw [hW2]; exact hm1.set hc1
 have hk2:∀ b,b < w.heap.size->W2.heap[b]?=w.heap[b]?:=fun b hb=>by
  rw [hW2,setRow_other _ _ _ _ (by omega)]
  exact hx1.block b hb
 have hc2d:fZ W2.drew N row2 69:=hc2
 obtain ⟨row3,hrow3⟩:∃ row3,row3=(row2.toList.take ((i + 1) * 4) ++ cs.drop (i * 4) ++ row2.toList.drop ((i + 1) * 4 + (cs.drop (i * 4)).length)).toArray:=⟨_,rfl⟩
 obtain ⟨W3,hW3⟩:∃ W3,W3=W2.drew.setRow N row3:=⟨_,rfl⟩
 have hdl:(cs.drop (i * 4)).length=(n - i) * 4:=by rw [List.length_drop,hl]; omega
 have hR2L:row2.toList.length=row2.size:=by simp
 have h3s:row3.size=row2.size:=by
  rw [hrow3,List.size_toArray,List.length_append,List.length_append,List.length_take,List.length_drop,List.length_drop,hl,hR2L,h2s,hRl]
  omega
 have hmin:Nat.min (n - i) (n + 1 - (i + 1))=n - i:=by
  have:n + 1 - (i + 1)=n - i:=by omega
  rw [this]; exact Nat.min_self _
 have hcpB:∀ ty,(Builtin.copy_ #[24,24] ty #[.slice (some ⟨N,(i + 1) * 4,none⟩) (n + 1 - (i + 1)) (G - (i + 1)),.slice (some ⟨g,i * 4,none⟩) (n - i) (c - i)]).run Go.Proofs.Tryz.prog W2.drew=.ok (goInt (Nat.min (n - i) (n + 1 - (i + 1)))) W3:=fun ty=>by
  rw [hW3,hrow3]
  refine mK pX hinf hc2d ⟨g,i * 4,none⟩ (n - i) (c - i) (cs.drop (i * 4)) (by rw [hdl,hmin,hsize]) (fun j u hu=>?_) (fun v hv=>h1c v (List.mem_of_mem_drop hv)) (by rw [hdl,h2s,hRl]; omega)
  rw [Addr.add_lit]
  rw [List.getElem?_drop] at hu
  show W2.cell? ⟨g,i * 4 + j,none⟩=some u
  rw [World.cell?_of_block (w:=w) (a:=⟨g,i * 4 + j,none⟩) (hk2 g hgl)]
  exact hcell _ u hu
 have hfin:Hid (uX w 4 (some ⟨g,0,none⟩) c (n + 1) (cs.take (i * 4) ++ vs ++ cs.drop (i * 4)) (.slice (some ⟨N,0,none⟩) (n + 1) G) W3):=by
  refine ⟨N,G,rfl,hGn,⟨⟨row3,69,by rw [hW3]; exact hc2d.set h3s,by rw [h3s,h2s,hRl],?_⟩,fun _=>by rw [hW3]; exact kF.set hc2d (fun cur E fz e=>hm2 cur E fz e)⟩,.inl (by omega),?_⟩
  ·have e0:(cs.take (i * 4) ++ vs).length=(i + 1) * 4:=by rw [List.length_append,List.length_take,hl,hvl,Nat.min_eq_left (by omega)]; omega
   have e2:row2.toList.take ((i + 1) * 4)=cs.take (i * 4) ++ vs:=by
    rw [hrow2,hRt]
    show (cs.take (i * 4) ++ vs ++ _).take ((i + 1) * 4)=_
    exact List.take_left' e0
   rw [hrow3,e2]
   show (cs.take (i * 4) ++ vs ++ cs.drop (i * 4) ++ _).take (cs.take (i * 4) ++ vs ++ cs.drop (i * 4)).length=_
   rw [List.take_left]
  ·have hd:=eC W2.drew N row3
   have ha:=eC W1 N row2
   rw [<- hW2] at ha
   rw [<- hW3] at hd
   refine ⟨hd.os.trans (ha.os.trans hx1.os),hd.tape.trans (ha.tape.trans hx1.tape),hd.output.trans (ha.output.trans hx1.output),Nat.le_trans hx1.size (Nat.le_trans ha.size hd.size),fun b hb _=>?_⟩
   rw [hW3,setRow_other _ _ _ _ (by omega)]
   exact hk2 b hb
 have mixed:Go.Proofs.Tryz.prog.follows .mixedOrders=true:=rfl
 have hnt:Go.Proofs.Tryz.f71.ntmps=95:=rfl
 have q1:¬ ((i:Int)=(n:Int)):=by omega
 have q2:(c:Int) < (n:Int) + 1:=by omega
 have q3:¬ (G=i):=by omega
 have q4:¬ (G=i + 1):=by omega
 have q5:¬ (c=i):=by omega
 have q6:i<=n:=by omega
 have q7:i<=c:=by omega
 have hw1:IntKind.i64.wrap ((i:Int) + (1:Int))=(i:Int) + (1:Int):=by rw [IntKind.wrap_i64]; omega
 have hb1:(0:Int)<=(i:Int) + (1:Int):=by omega
 have htn:((i:Int) + (1:Int)).toNat=i + 1:=by omega
 have hb3:(i:Int)<=(n:Int):=by omega
 have X1:Hid (∀ ty,(Builtin.append_ #[24,3] ty #[.slice (some ⟨g,0,none⟩) i c,.int .i64 ((n:Int) + (1:Int) - (i:Int))]).run Go.Proofs.Tryz.prog w=.ok (.slice (some ⟨N,0,none⟩) (n + 1) G) W1):=hrz
 have X2:Hid (∀ ty dc,(Builtin.copy_ #[24,24] ty #[.slice (some ⟨N,i * 4,none⟩) (n + 1 - i) dc,.slice (some va) 1 vc]).run Go.Proofs.Tryz.prog W1=.ok (goInt (Nat.min 1 (n + 1 - i))) W2):=hcpA
 have X3:Hid (∀ ty,(Builtin.copy_ #[24,24] ty #[.slice (some ⟨N,(i + 1) * 4,none⟩) (n + 1 - (i + 1)) (G - (i + 1)),.slice (some ⟨g,i * 4,none⟩) (n - i) (c - i)]).run Go.Proofs.Tryz.prog W2.drew=.ok (goInt (Nat.min (n - i) (n + 1 - (i + 1)))) W3):=hcpB
 clear hcpB X2 hrz hold hrow3 hrow2 hW1 hW2 hW3 hROW hRl hRt hc1 hm1 hx1 hRL h2s hc2 hm2 hk2 hc2d hdl hR2L h3s hmin hv h1 h1c hcell hcur hnm htk hsz hfit hva hvl hvl' hl hkk hik hG hN hgl hinf hsize hbytes hzero
 go_enter Go.Proofs.Tryz.func71,hnt
 go_wp2_with (first
  |(at_builtin; refine Lib.wpList_append_run _ rfl _ _ _ _ rfl _ _ rfl rfl _ _ (X1.out _) ?_)
  | fail)
 go_region_law_o (refine sQ rfl _ _ 24 24 rfl _ _ (by simp [Act.eval,Act.put]) (by simp [Act.eval,Act.put]) (X3.out _) ?_)
 go_wp2
 go_ret
 exact ⟨_,rfl,hfin.out⟩
end Go.Pe.Tryz
set_option maxRecDepth 100000
set_option maxHeartbeats 4000000
set_option linter.all false
namespace Go.Pe.Tryz
open Nat (reduceEqDiff reduceAdd reduceSub reduceLT)
open Go Go.RowKit Go.Shelf Go.Lib Go.Proofs.Tryz
theorem vT {P:Program} (w:World) (tS tR e:TypeId) (ht:P.underlying tS=some (.slice e)) (size:Nat) (hz:∀ w,(Go.sizeOf e).run P w=.ok size w)
  (a b:Addr) (la ca lb cb:Nat) (hne:a.block≠b.block) (tA tB:TypeId) (kA kB:Nat)
  (hsa:w.shape? a.block=some (tA,kA)) (hkA:kA≠0) (hsb:w.shape? b.block=some (tB,kB))
  (hfb:w.frozen? b=false) (hfe:w.frozen? { block:=b.block,off:=kB }=false) :
  (Extern.SlicesOverlaps.overlaps #[tS,tS] #[tR] #[.slice (some a) la ca,.slice (some b) lb cb]).run P w=.ok (.bool false) w:=by
 have hnb:(a.block != b.block)=true:=by simpa using hne
 have hnb':(a.block == b.block)=false:=by simpa using hne
 change Sem.run P (α := Value) (underlying tS >>= _) w = _
 by_cases h0:la=0\/lb=0\/size=0
 ·simp [run_underlying ht,hz,h0]
 ·cases kA with
  | zero=>exact absurd rfl hkA
  | succ kA =>
   cases h1:w.frozen? a<;>cases h2:w.frozen? { block:=a.block,off:=kA + 1 } <;>
    simp [run_underlying ht,hz,h0,hnb,hnb',frozen,noView,viewAt,mayBeOne,stringish,shape,Sem.run,hsa,hsb,hfb,hfe,h1,h2]
theorem w9 {w:World} {g:Nat} {cur:Array Value} {E:TypeId} (h:fZ w g cur E) (hn:kF w g) (k:Nat):w.frozen? ⟨g,k,none⟩=false:=by
 obtain ⟨fz,h1,_⟩:=h
 have:=hn _ _ _ h1
 obtain ⟨lo,hi⟩:=fz
 simp only [World.frozen?,h1,Bool.and_eq_false_iff,decide_eq_false_iff_not]
 simp only at this
 omega
theorem aEc {w:World} {g:Nat} {cur:Array Value} {E:TypeId} (h:fZ w g cur E):w.shape? g=some (E,cur.size):=by
 obtain ⟨fz,h1,_⟩:=h
 simp [World.shape?,h1]
theorem aAG {w:World} {a:Addr} {v:Value} (h:w.cell? a=some v):∃ t k,w.shape? a.block=some (t,k)/\k≠0:=by
 unfold World.cell? at h
 unfold World.shape?
 split at h
 ·rename_i c t fz hb
  split at h
  ·cases h
  ·refine ⟨t,c.size,rfl,fun e=>?_⟩
   have:=(Array.getElem?_eq_some_iff.1 h).1
   omega
 ·cases h
theorem aAK (g n c i vc:Nat) (va:Addr) (cs vs:List Value) (w:World) (hl:cs.length=n * 4) (hrow:aAF w g 4 (c * 4) cs) (hvl:vs.length=4) (hv:∀ j u,vs[j]?=some u->w.cell? (va.add j)=some u) (hvg:va.block≠g) (h1:∀ v∈vs,v.oneCell'=true) (h1c:∀ v∈cs,v.oneCell'=true) (hn:n<=1048576) (hi:i < n) (hroom:n + 1<=c) :
  Calls Go.Proofs.Tryz.prog 71 #[.slice (some ⟨g,0,none⟩) n c,.int .i64 i,.slice (some va) 1 vc] w fun e w'=>∃ v,e=.returned v/\uX w 4 (some ⟨g,0,none⟩) c (n + 1) (cs.take (i * 4) ++ vs ++ cs.drop (i * 4)) v w':=by
 obtain ⟨inf,hinf,hsize,hbytes,hzero⟩:=aHk
 obtain ⟨⟨cur,E,hcur,hsz,htk⟩,hnm⟩:=hrow
 have hnm:=hnm (by decide)
 have hcl:cur.toList.length=cur.size:=by simp
 have hblk:∀ j,(va.add j).block=va.block:=fun j=>by unfold Addr.add; split<;>rfl
 have hvl':vs.length=Nat.min 1 (n + 1 - i) * inf.size:=by
  rw [hsize,hvl,show Nat.min 1 (n + 1 - i)=1 from Nat.min_eq_left (by omega)]
 obtain ⟨tA,kA,hsa,hkA⟩:∃ t k,w.shape? va.block=some (t,k)/\k≠0:=by
  obtain ⟨u,hu⟩:=cK (show 0 < vs.length by omega)
  have:=aAG (hv 0 u hu)
  rwa [hblk] at this
 have hov:∀ lb cb,(callFunc 100 #[.slice (some va) 1 vc,.slice (some ⟨g,(i + 1) * 4,none⟩) lb cb]).run Go.Proofs.Tryz.prog w=.ok (.value (.bool false)) w:=fun lb cb=>by
  rw [run_callFunc_extern (by rfl:Go.Proofs.Tryz.prog.funcs[100]?=some Go.Proofs.Tryz.f100) (by kernel_rfl) (by kernel_rfl) (by kernel_rfl) (e:=Extern.SlicesOverlaps.overlaps #[24,24] #[4]) (by kernel_rfl),
   vT w 24 4 69 pX 4 (fun w=>by simp [sizeOf,typeInfo,hinf,hsize]) va ⟨g,(i + 1) * 4,none⟩ 1 vc lb cb hvg tA E kA cur.size hsa hkA (aEc hcur) (w9 hcur hnm _) (w9 hcur hnm _)]
  rfl
 have hcurd:fZ w.drew g cur E:=hcur
 obtain ⟨row1,hrow1⟩:∃ row1,row1=(cur.toList.take ((i + 1) * 4) ++ cs.drop (i * 4) ++ cur.toList.drop ((i + 1) * 4 + (cs.drop (i * 4)).length)).toArray:=⟨_,rfl⟩
 obtain ⟨W1,hW1⟩:∃ W1,W1=w.drew.setRow g row1:=⟨_,rfl⟩
 have hdl:(cs.drop (i * 4)).length=(n - i) * 4:=by rw [List.length_drop,hl]; omega
 have h1s:row1.size=cur.size:=by
  rw [hrow1,List.size_toArray,List.length_append,List.length_append,List.length_take,List.length_drop,List.length_drop,hl,hcl,hsz]
  omega
 have hmin:Nat.min (n + 1 - i) (n + 1 - (i + 1))=n - i:=by
  have:n + 1 - (i + 1)=n - i:=by omega
  rw [this]; exact Nat.min_eq_right (by omega)
 have hcpB:∀ ty,(Builtin.copy_ #[24,24] ty #[.slice (some ⟨g,(i + 1) * 4,none⟩) (n + 1 - (i + 1)) (c - (i + 1)),.slice (some ⟨g,i * 4,none⟩) (n + 1 - i) (c - i)]).run Go.Proofs.Tryz.prog w.drew=.ok (goInt (Nat.min (n + 1 - i) (n + 1 - (i + 1)))) W1:=fun ty=>by
  rw [hW1,hrow1]
  refine mK pX hinf hcurd ⟨g,i * 4,none⟩ (n + 1 - i) (c - i) (cs.drop (i * 4)) (by rw [hdl,hmin,hsize]) (fun j u hu=>?_) (fun v hv=>h1c v (List.mem_of_mem_drop hv)) (by rw [hdl,hsz]; omega)
  rw [Addr.add_lit,hcurd.cell,<-Array.getElem?_toList]
  rw [List.getElem?_drop,<-htk,List.getElem?_take] at hu
  split at hu
  ·exact hu
  ·cases hu
 have hc1:fZ W1 g row1 E:=by rw [hW1]; exact hcurd.set h1s
 have hm1:kF W1 g:=by rw [hW1]; exact kF.set hcurd (fun cur E fz e=>hnm cur E fz e)
 have hR1L:row1.toList.length=row1.size:=by simp
 obtain ⟨row2,hrow2⟩:∃ row2,row2=(row1.toList.take (i * 4) ++ vs ++ row1.toList.drop (i * 4 + vs.length)).toArray:=⟨_,rfl⟩
 obtain ⟨W2,hW2⟩:∃ W2,W2=W1.setRow g row2:=⟨_,rfl⟩
 have h2s:row2.size=row1.size:=by
  rw [hrow2,List.size_toArray,List.length_append,List.length_append,List.length_take,List.length_drop,hvl,hR1L,h1s,hsz]
  omega
 have hcpA:∀ ty dc,(Builtin.copy_ #[24,24] ty #[.slice (some ⟨g,i * 4,none⟩) (n + 1 - i) dc,.slice (some va) 1 vc]).run Go.Proofs.Tryz.prog W1=.ok (goInt (Nat.min 1 (n + 1 - i))) W2:=fun ty dc=>by
  rw [hW2,hrow2]
  refine mK pX hinf hc1 va 1 vc vs hvl' (fun j u hu=>?_) h1 (by rw [hvl,h1s,hsz]; omega)
  rw [World.cell?_of_block (w:=w) (by rw [hblk,hW1,setRow_other _ _ _ _ hvg]; rfl)]
  exact hv j u hu
 have hfin:Hid (uX w 4 (some ⟨g,0,none⟩) c (n + 1) (cs.take (i * 4) ++ vs ++ cs.drop (i * 4)) (.slice (some ⟨g,0,none⟩) (n + 1) c) W2):=by
  refine ⟨g,c,rfl,hroom,⟨⟨row2,E,by rw [hW2]; exact hc1.set h2s,by rw [h2s,h1s,hsz],?_⟩,fun _=>by rw [hW2]; exact hm1.set hc1⟩,.inr ⟨by omega,rfl⟩,?_⟩
  ·have ht:cur.toList.take (i * 4)=cs.take (i * 4):=aEN htk (by rw [hl]; omega)
   have e1:row1.toList.take (i * 4)=cs.take (i * 4):=by
    rw [hrow1]
    show (cur.toList.take ((i + 1) * 4) ++ cs.drop (i * 4) ++ _).take (i * 4)=_
    rw [List.append_assoc,List.take_append_of_le_length (by rw [List.length_take,hcl,hsz]; omega),List.take_take,Nat.min_eq_left (by omega),ht]
   have e2:(row1.toList.drop (i * 4 + vs.length)).take ((n - i) * 4)=cs.drop (i * 4):=by
    rw [hrow1,hvl]
    show ((cur.toList.take ((i + 1) * 4) ++ cs.drop (i * 4) ++ _).drop (i * 4 + 4)).take ((n - i) * 4)=_
    rw [List.append_assoc,show i * 4 + 4=(i + 1) * 4 by omega,List.drop_left' (by rw [List.length_take,hcl,hsz]; omega)]
    exact List.take_left' hdl
   have hlt:(cs.take (i * 4)).length=i * 4:=by rw [List.length_take,hl]; omega
   rw [hrow2,e1]
   show (cs.take (i * 4) ++ vs ++ row1.toList.drop (i * 4 + vs.length)).take (cs.take (i * 4) ++ vs ++ cs.drop (i * 4)).length=_
   have el:(cs.take (i * 4) ++ vs ++ cs.drop (i * 4)).length=(cs.take (i * 4) ++ vs).length + (n - i) * 4:=by rw [List.length_append,hdl]
   rw [el,List.take_append,List.take_of_length_le (Nat.le_add_right _ _),Nat.add_sub_cancel_left,e2]
  ·have hd:=eC w.drew g row1
   have ha:=eC W1 g row2
   rw [<- hW1] at hd
   rw [<- hW2] at ha
   refine ⟨ha.os.trans hd.os,ha.tape.trans hd.tape,ha.output.trans hd.output,Nat.le_trans hd.size ha.size,fun b hb hx=>?_⟩
   have hbg:b≠g:=fun e=>hx ⟨by omega,by rw [e]⟩
   rw [hW2,setRow_other _ _ _ _ hbg,hW1,setRow_other _ _ _ _ hbg]
   rfl
 have mixed:Go.Proofs.Tryz.prog.follows .mixedOrders=true:=rfl
 have hnt:Go.Proofs.Tryz.f71.ntmps=95:=rfl
 have q1:¬ ((i:Int)=(n:Int)):=by omega
 have q2:¬ ((c:Int) < (n:Int) + 1):=by omega
 have q3:¬ (c=n):=by omega
 have q4:¬ (c=i + 1):=by omega
 have q5:¬ (c=i):=by omega
 have q6:i<=n:=by omega
 have q7:i<=c:=by omega
 have hw1:IntKind.i64.wrap ((i:Int) + (1:Int))=(i:Int) + (1:Int):=by rw [IntKind.wrap_i64]; omega
 have hw2:IntKind.i64.wrap ((n:Int) + (1:Int))=(n:Int) + (1:Int):=by rw [IntKind.wrap_i64]; omega
 have hb1:(0:Int)<=(i:Int) + (1:Int):=by omega
 have hb2:(0:Int)<=(n:Int) + (1:Int):=by omega
 have htn:((i:Int) + (1:Int)).toNat=i + 1:=by omega
 have htn2:((n:Int) + (1:Int)).toNat=n + 1:=by omega
 have hb3:(i:Int)<=(n:Int):=by omega
 have hb4:(n:Int) + 1<=(c:Int):=by omega
 have hb5:(i:Int) + 1<=(n:Int) + 1:=by omega
 have hb6:(i:Int)<=(n:Int) + 1:=by omega
 have X3:Hid (∀ ty,(Builtin.copy_ #[24,24] ty #[.slice (some ⟨g,(i + 1) * 4,none⟩) (n + 1 - (i + 1)) (c - (i + 1)),.slice (some ⟨g,i * 4,none⟩) (n + 1 - i) (c - i)]).run Go.Proofs.Tryz.prog w.drew=.ok (goInt (Nat.min (n + 1 - i) (n + 1 - (i + 1)))) W1):=hcpB
 clear hcpB hrow1 hrow2 hW1 hW2 hc1 hm1 h2s h1s hcurd hdl hR1L hmin hv h1 h1c hcur hnm htk hsz hvl hvl' hl hinf hsize hbytes hzero hcl hblk hsa hkA hvg
 go_enter Go.Proofs.Tryz.func71,hnt
 go_wp2_with (simp only [hov])
 go_region_law_o (refine sQ rfl _ _ 24 24 rfl _ _ (by simp [Act.eval,Act.put]) (by simp [Act.eval,Act.put]) (X3.out _) ?_)
 go_wp2
 go_ret
 exact ⟨_,rfl,hfin.out⟩
theorem aC6 (a:Option Addr) (n c i vc:Nat) (va:Addr) (cs vs:List Value) (w:World) (h:aFH w 4 a n c cs) (hvl:vs.length=4) (hv:∀ j u,vs[j]?=some u->w.cell? (va.add j)=some u) (hvg:a≠some ⟨va.block,0,none⟩) (h1:∀ v∈vs,v.oneCell'=true) (h1c:∀ v∈cs,v.oneCell'=true) (hn:n<=1048576) (hi:i<=n) :
  Calls Go.Proofs.Tryz.prog 71 #[.slice a n c,.int .i64 i,.slice (some va) 1 vc] w fun e w'=>∃ v,e=.returned v/\uX w 4 a c (n + 1) (cs.take (i * 4) ++ vs ++ cs.drop (i * 4)) v w':=by
 by_cases hin:i=n
 ·subst hin
  have h2:=w5 a i c vc va cs vs w h hvl hv h1 hn
  rw [<- h.1,List.take_length,List.drop_length,List.append_nil]
  exact h2
 ·obtain ⟨hl,hc,h⟩:=h
  rcases h with rfl|⟨g,rfl,hrow⟩
  ·omega
  ·by_cases hroom:n + 1<=c
   ·exact aAK g n c i vc va cs vs w hl hrow hvl hv (fun e=>hvg (by rw [e])) h1 h1c hn (by omega) hroom
   ·exact aCn g n c i vc va cs vs w hl hc hrow hvl hv h1 h1c hn (by omega) (by omega)
theorem zL (xs:List D) (y:D) (hs:∀ x∈xs,x.size=4) (hy:y.size=4) (i:Nat) (hi:i<=xs.length) (hn:xs.length<=1048576) :
  wP prog 71 false (.sl true 4 (iM xs)) [.int .i64 i,.sl false 4 (.cons y .nil)] (fun x' rs=>(∃ u,x'=.lnk 0 u)/\rs=[.sl true 4 (iM (xs.take i ++ y :: xs.drop i))]):=by
 intro M oc vs w hM hob hnd hlt hG hr
 obtain ⟨_,us1,f1,f2,rfl,e0,⟨rfl,rfl⟩,cv,us2,f3,f4,rfl,e1,hsv,rfl,rfl⟩:=hr
 have e1':f3=[]:=by
  rw [e1] at e0
  simpa using e0.symm
 subst e1'
 obtain ⟨_,av,vc,dv,fpv,rfl,hvc,hv3,hv4⟩:=hsv
 simp only [Bool.false_eq_true,if_false] at hv4
 obtain ⟨rfl,_,hv5⟩:=hv4
 obtain ⟨y1,y2,p1,p2,rfl,e2,hyr,rfl,rfl⟩:=hv3
 have e2':p1=[]:=by simpa using e2.symm
 subst e2'
 rw [List.append_nil] at hv5
 have hyl:y1.length=4:=by rw [b7 _ _ _ hyr,hy]
 have hy1:=mN _ _ _ hyr
 rcases hv5 with hv5|⟨va,rfl,hH⟩
 ·exact absurd hv5 (by simp [D.len])
 rcases hH with hH|⟨hvb,hvM,hvcell⟩
 ·rw [hH] at hyl; simp at hyl
 obtain ⟨cs0,hrep,hv⟩:=hob
 obtain ⟨hL,a,c,ds,fps,rfl,hc,h3,h4⟩:=hrep
 rw [dH] at hc hv
 simp only [if_true] at h4
 have hone:=mN _ _ _ h3
 have hdl:ds.length=xs.length * 4:=by rw [b7 _ _ _ h3,iU _ hs]
 have hv':vF false oc=.slice a xs.length c:=by
  show oc.v=_
  rw [hv]; rfl
 rw [hv']
 have hO:aFH w 4 a xs.length c ds:=⟨hdl,hc,h4.imp (fun h=>h.1) fun ⟨g,h1,h2,_⟩=>⟨g,h1,h2⟩⟩
 have hag:∀ b,c≠0/\a=some ⟨b,0,none⟩->oc.fp=b :: fps:=fun b hb=>by
  rcases h4 with ⟨h,_⟩|⟨g,h1,_,h2⟩
  ·exact absurd h hb.1
  ·have h3:=hb.2
   rw [h1] at h3
   injection h3 with h3
   injection h3 with h3
   rw [h2,<-h3]
 have hfpo:∀ b∈fps,b∈oc.fp:=fun b hb=>by
  rcases h4 with ⟨_,h,_⟩|⟨g,_,_,h2⟩
  ·rw [h] at hb; cases hb
  ·rw [h2]; simp [hb]
 have hfpn:fps.Nodup:=by
  rcases h4 with ⟨_,h,_⟩|⟨g,_,_,h2⟩
  ·rw [h]; exact List.nodup_nil
  ·rw [h2] at hnd; exact (List.nodup_cons.1 hnd).2
 have h3':=h3
 rw [<- List.take_append_drop i xs] at h3'
 obtain ⟨c1,c2,q1,q2,ed,ef,r1,r2⟩:=(d9 _ _ _ _).1 h3'
 have l1:c1.length=i * 4:=by
  rw [b7 _ _ _ r1,iU _ (fun y hy=>hs y (List.mem_of_mem_take hy)),List.length_take,Nat.min_eq_left (by omega)]
 have t1:ds.take (i * 4)=c1:=by rw [ed,<-l1,List.take_left]
 have t2:ds.drop (i * 4)=c2:=by rw [ed,<-l1,List.drop_left]
 have hcall:Calls Go.Proofs.Tryz.prog 71 #[.slice a xs.length c,.int .i64 i,.slice (some va) 1 vc] w fun e w'=>∃ v,e=.returned v/\uX w 4 a c (xs.length + 1) (c1 ++ y1 ++ c2) v w':=by
  rw [<- t1,<-t2]
  by_cases hin:i=xs.length
  ·have h2:=w5 a xs.length c vc va ds y1 w hO hyl hvcell hy1 hn
   rw [hin,<-hdl,List.take_length,List.drop_length,List.append_nil]
   exact h2
  ·refine aC6 a xs.length c i vc va ds y1 w hO hyl hvcell (fun h=>hvM (.inr ?_)) hy1 hone hn hi
   rw [hag va.block ⟨by omega,h⟩]; simp
 refine hcall.mono ?_
 rintro e w' ⟨v,rfl,g,c',rfl,k1,k2,k3,k4⟩
 have hgn:g ∉ fps:=fun h=>by
  rcases k3 with k3|k3
  ·have:=(hlt g (hfpo g h)).1; omega
  ·rw [hag g k3] at hnd; exact (List.nodup_cons.1 hnd).1 h
 have hsub:∀ b∈g :: fps,(b∈oc.fp\/w.heap.size<=b):=fun b hb=>by
  rcases List.mem_cons.1 hb with rfl|hb
  ·rcases k3 with k3|k3
   ·exact .inr k3
   ·rw [hag b k3]; exact .inl (by simp)
  ·exact .inl (hfpo b hb)
 have hgw:g < w'.heap.size:=k2.lt
 have keep:∀ b,b < w.heap.size->(b∈fps\/¬ (M b\/b∈oc.fp))->w'.heap[b]?=w.heap[b]?:=fun b hb hx=>by
  refine k4.kept b hb fun e=>?_
  have hfp:=hag b e
  rcases hx with hx|hx
  ·rw [hfp] at hnd; exact (List.nodup_cons.1 hnd).1 hx
  ·exact hx (.inr (by rw [hfp]; simp))
 have hMs:∀ b,b < w.heap.size->(M b\/b∈[] ++ (g :: fps))->(M b\/b∈oc.fp):=fun b hb h=>by
  rcases h with h|h
  ·exact .inl h
  ·rcases hsub b (by simpa using h) with h|h
   ·exact .inr h
   ·omega
 have frame:∀ (q:D) (cs:List Value) (p:List Nat),(∀ b∈p,b∈fps)->q.rep w (fun b=>M b\/b∈oc.fp) cs p->q.rep w' (fun b=>M b\/b∈[] ++ (g :: fps)) cs p:=fun q cs p hp hq =>
  cU k4.size hMs _ _ _ (fun b hb hx=>keep b hb (hx.imp (hp b) id)) hq
 have hq1:∀ b∈q1,b∈fps:=fun b hb=>by rw [ef]; simp [hb]
 have hq2:∀ b∈q2,b∈fps:=fun b hb=>by rw [ef]; simp [hb]
 have hl':(xs.take i ++ y :: xs.drop i).length=xs.length + 1:=by simp; omega
 refine ⟨.lnk 0 oc.v,_,[.slice (some ⟨g,0,none⟩) (xs.length + 1) c'],[],g :: fps,rfl,⟨⟨_,rfl⟩,rfl⟩,⟨[oc.v],⟨rfl,by rw [hv]; rfl,rfl⟩,rfl⟩,?_,?_,fun b hb=>?_,?_⟩
 ·refine ⟨[.slice (some ⟨g,0,none⟩) (xs.length + 1) c'],[],g :: fps,[],rfl,by simp,⟨(iC _).2 fun x hx=>?_,some ⟨g,0,none⟩,c',c1 ++ (y1 ++ c2),fps,by rw [dH,hl'],by rw [dH,hl']; exact k1,?_,?_⟩,rfl,rfl⟩
  ·rcases List.mem_append.1 hx with hx|hx
   ·exact hs x (List.mem_of_mem_take hx)
   ·rcases List.mem_cons.1 hx with rfl|hx
    ·exact hy
    ·exact hs x (List.mem_of_mem_drop hx)
  ·refine (d9 _ _ _ _).2 ⟨c1,y1 ++ c2,q1,q2,rfl,ef,frame _ _ _ hq1 r1,⟨y1,c2,[],q2,rfl,rfl,frame _ _ _ (fun _ h=>by cases h) hyr,frame _ _ _ hq2 r2⟩⟩
  ·simp only [if_true]
   exact .inr ⟨g,rfl,by rw [<- List.append_assoc]; exact k2,rfl⟩
 ·simpa using List.nodup_cons.2 ⟨hgn,hfpn⟩
 ·have hb':b∈g :: fps:=by simpa using hb
  refine ⟨hsub b hb',?_⟩
  rcases List.mem_cons.1 hb' with rfl|h
  ·exact hgw
  ·have:=(hlt b (hfpo b h)).1
   have:=k4.size
   omega
 ·exact ⟨k4.os,k4.tape,k4.output,k4.size,fun b hb hx=>k4.kept b hb fun e=>hx (by rw [hag b e]; simp)⟩
end Go.Pe.Tryz
set_option maxRecDepth 100000
set_option maxHeartbeats 4000000
set_option linter.all false
namespace Go.Pe.Tryz
open Nat (reduceEqDiff reduceAdd reduceSub reduceLT)
open Go.Proofs.Tryz Go.Sort
theorem kP.grow {w:World} (k:Nat) (os:Array Obj):kP w (Go.Sort.grow (w.drewN k) os):=by
 refine ⟨rfl,rfl,rfl,?_,?_⟩
 ·simp [Go.Sort.grow,World.drewN]
 ·intro b hb
  simp only [Go.Sort.grow]
  exact Array.getElem?_append_left (xs:=w.heap) (ys:=os) hb
theorem aFL (n:Int) (h:cV .i64 n):Fn prog 115 [.int .i64 n] (fun rs=>rs=[.str (Lib.itoa n)]) :=
 aM3 rfl rfl fun w hF=>(Go.Proofs.Tryz.strconv_Itoa n (by simp only [cV] at h; omega) (by simp only [cV] at h; omega) w (aN1 hF)).mono (by
  rintro e w' ⟨rfl,k,os,rfl⟩
  exact ⟨rfl,kP.grow k os⟩)
theorem lO (n:Int) (h:cV .i64 n):Fn prog 97 [.int .i64 n] (fun rs=>rs=[.str (Lib.itoa n)]):=by
 refine bV (fn:=f97) (by exact func97) c97 r97 (n:=5) (by rfl) (rv:=[.tmp 2]) (by rfl) (by simp) ?_
 unfold m97
 try simp only [wQ]
 repeat' (first|(simp only [↓wA,↓wC,wB,aY,aW,reduceEqDiff,reduceAdd,reduceSub,reduceIte,reduceCtorEq,Nat.reduceBEq,reduceLT])|(refine aZ (aFL n h) rfl rfl ?_)|(refine a6 (aFL n h) rfl rfl ?_)|((first|apply aO|apply aQ|apply aK)<;>intro h<;>try simp only [h]))
theorem aGq:∀ d:Fin 10,((([48,49,50,51,52,53,54,55,56,57]:List UInt8).take (d.val + 1)).drop d.val)=[UInt8.ofNat (48 + d.val)]:=by decide
theorem qE {u:Nat} (h:u < 10):Lib.decDigits u=[UInt8.ofNat (48 + u)]:=by
 rw [Lib.decDigits,dif_pos h]
theorem qT {u:Nat} (h:¬ u < 10):Lib.decDigits u=Lib.decDigits (u / 10) ++ [UInt8.ofNat (48 + u % 10)]:=by
 rw [Lib.decDigits,dif_neg h]
theorem aBa (d:Nat) (h:d < 10):((([48,49,50,51,52,53,54,55,56,57]:List UInt8).take (d + 1)).drop d)=[UInt8.ofNat (48 + d)]:=aGq ⟨d,h⟩
theorem aDg (u:Nat):Lib.itoa (u:Int)=Lib.decDigits u:=by
 unfold Lib.itoa
 rw [if_neg (by omega)]
 simp
theorem vE (u:Nat) (h:u<=9223372036854775807):(Lib.decDigits u).length<=21:=by
 rw [<- aDg]
 exact Lib.itoa_length_le (u:Int) (by omega) (by omega)
theorem fA (n:Int) (h:cV .i64 n):(Lib.itoa n).length<=21:=by
 simp only [cV] at h
 exact Lib.itoa_length_le n (by omega) (by omega)
theorem aGX:∀ (u:Nat),u<=9223372036854775807->Fn prog 99 [.int .i64 (u:Int)] (fun rs=>rs=[.str (Lib.decDigits u)]):=by
 intro u
 induction u using Nat.strongRecOn with
 | _ u ih =>
  intro hu
  have h0:decide ((u:Int) < 0)=false:=decide_eq_false (by omega)
  refine bV (fn:=f99) (by exact func99) c99 r99 (n:=25) (by rfl) (rv:=[.tmp 2]) (by rfl) (by simp) ?_
  unfold m99
  try simp only [wQ]
  try simp only [h0,↓wA,↓wC,wB,aY,aW,reduceEqDiff,reduceAdd,reduceSub,reduceIte,reduceCtorEq,Nat.reduceBEq,reduceLT]
  by_cases h:u < 10
  ·have hd:decide ((u:Int) < 10)=true:=decide_eq_true (by omega)
   have hp:(0:Int)<=(u:Int):=by omega
   try simp only [hd,↓wA,↓wC,wB,aY,aW,reduceEqDiff,reduceAdd,reduceSub,reduceIte,reduceCtorEq,Nat.reduceBEq,reduceLT]
   refine bA (by simp only [cV]; omega) ?_
   try simp only [hd,hp,↓wA,↓wC,wB,aY,aW,reduceEqDiff,reduceAdd,reduceSub,reduceIte,reduceCtorEq,Nat.reduceBEq,reduceLT]
   refine bK ⟨by omega,by omega⟩ ?_
   rw [show ((u:Int) + 1).toNat=u + 1 by omega,Int.toNat_natCast,aBa u h,qE h]
  ·have hd:decide ((u:Int) < 10)=false:=decide_eq_false (by omega)
   have hq:((u:Int)).tdiv 10=((u / 10:Nat):Int):=by rw [Int.tdiv_eq_ediv_of_nonneg (by omega)]; omega
   have hr:((u:Int)).tmod 10=((u % 10:Nat):Int):=by rw [Int.tmod_eq_emod_of_nonneg (by omega)]; omega
   try simp only [hd,hq,hr,↓wA,↓wC,wB,aY,aW,reduceEqDiff,reduceAdd,reduceSub,reduceIte,reduceCtorEq,Nat.reduceBEq,reduceLT]
   refine bK (by decide) ?_
   refine bA (by simp only [cV]; omega) ?_
   refine a6 (ih (u / 10) (by omega) (by omega)) rfl rfl ?_
   try simp only [hr,↓wA,↓wC,wB,aY,aW,reduceEqDiff,reduceAdd,reduceSub,reduceIte,reduceCtorEq,Nat.reduceBEq,reduceLT]
   refine bK (by decide) ?_
   refine bK (by decide) ?_
   refine bA (by simp only [cV]; omega) ?_
   have hp:(0:Int)<=((u % 10:Nat):Int):=by omega
   try simp only [hp,↓wA,↓wC,wB,aY,aW,reduceEqDiff,reduceAdd,reduceSub,reduceIte,reduceCtorEq,Nat.reduceBEq,reduceLT]
   refine bK ⟨by omega,by omega⟩ ?_
   rw [show (((u % 10:Nat):Int) + 1).toNat=u % 10 + 1 by omega,Int.toNat_natCast,aBa (u % 10) (by omega)]
   try simp only [↓wA,↓wC,wB,aY,aW,reduceEqDiff,reduceAdd,reduceSub,reduceIte,reduceCtorEq,Nat.reduceBEq,reduceLT]
   refine bK (by have:=vE (u / 10) (by omega); omega) ?_
   rw [qT h]
theorem l7 (n:Int) (h0:0<=n) (h:cV .i64 n):Fn prog 99 [.int .i64 n] (fun rs=>rs=[.str (Lib.itoa n)]):=by
 obtain ⟨u,rfl⟩:=Int.eq_ofNat_of_zero_le h0
 rw [aDg]
 exact aGX u (by simp only [cV] at h; omega)
end Go.Pe.Tryz
set_option maxRecDepth 100000
set_option maxHeartbeats 4000000
set_option linter.all false
namespace Go.Pe.Tryz
open Nat (reduceEqDiff reduceAdd reduceSub reduceLT)
open Go.Proofs.Tryz
theorem aC7 {w:World} {M:Nat->Prop}:∀ (L:List (List UInt8)) (ds:List Value) (fps:List Nat),(dl D.str L).rep w M ds fps->ds=L.map (fun s=>Value.string ⟨s.toArray⟩)
 | [],ds,fps,h=>h.1
 | s :: L,ds,fps,h=>by
  obtain ⟨c1,c2,f1,f2,rfl,_,h1,h2⟩:=h
  obtain ⟨rfl,_⟩:=h1
  rw [aC7 L c2 f2 h2]; rfl
theorem aLX (L:List (List UInt8)) (sep:List UInt8) (hN:L.length<=1048576) (hlen:(Lib.join L sep).length<=140737488355328):Fn prog 116 [.sl false 1 (dl D.str L),.str sep] (fun rs=>rs=[.str (Lib.join L sep)]):=by
 intro M vs w hM hG hv
 obtain ⟨cs,us,f1,f2,rfl,_,⟨_,a,c,ds,fps,rfl,hle,hds,hor⟩,⟨cs2,us2,f3,f4,rfl,_,⟨rfl,_⟩,rfl,_⟩⟩:=hv
 have hd:=aC7 L ds fps hds
 have hl:(dl D.str L).len=L.length:=a7 L
 have e:(L.map fun s:List UInt8=>(⟨s.toArray⟩:ByteArray)).map (·.data.toList)=L:=by
  rw [List.map_map]; exact (List.map_congr_left (fun s _=>by simp)).trans (List.map_id _)
 have e2:(⟨sep.toArray⟩:ByteArray).data.toList=sep:=by simp
 have main:Calls prog.P 116 #[.slice a (dl D.str L).len c,.string ⟨sep.toArray⟩] w fun e w'=>e=.returned (.string ⟨(Lib.join L sep).toArray⟩)/\kP w w':=by
  cases L with
  | nil=>exact (Go.Proofs.Tryz.strings_Join_none a c ⟨sep.toArray⟩ w).mono (by rintro e w' ⟨rfl,rfl⟩; exact ⟨rfl,kP.refl _⟩)
  | cons x r =>
   rw [hl] at hle hor ⊢
   simp only [Bool.false_eq_true,if_false] at hor
   obtain ⟨rfl,_,h0|⟨ad,rfl,hh⟩⟩:=hor
   ·simp at h0
   ·rcases hh with h|⟨hlt,hnM,hcell⟩
    ·rw [h] at hd; simp at hd
    ·have h0:=hcell 0 _ (by rw [hd]; rfl)
     obtain ⟨bk,o,sp⟩:=ad
     cases sp with
     | some s =>
      simp only [World.cell?,Addr.add,if_true] at h0
      split at h0
      ·simp at h0
      ·cases h0
     | none =>
      have hJ:=Go.Proofs.Tryz.strings_Join bk o c ((x :: r).map fun s:List UInt8=>(⟨s.toArray⟩:ByteArray)) ⟨sep.toArray⟩ w (fun j y hy=>by
       rw [List.getElem?_map] at hy
       obtain ⟨s,hs,rfl⟩:=Option.map_eq_some_iff.1 hy
       have:=hcell j (.string ⟨s.toArray⟩) (by rw [hd,List.getElem?_map,hs]; rfl)
       unfold Addr.add at this
       split at this
       ·rename_i hj; subst hj; exact this
       ·exact this) hlt (by rw [List.length_map]; omega) (by rw [List.length_map]; exact hle) (by rw [e,e2]; exact hlen)
      rw [e,e2,List.length_map] at hJ
      exact hJ
 refine Calls.mono main ?_
 rintro e w' ⟨rfl,hx⟩
 exact ⟨[.str (Lib.join L sep)],[.string ⟨(Lib.join L sep).toArray⟩],[],rfl,rfl,rD rfl,List.nodup_nil,(fun b hb=>by cases hb),hx⟩
theorem uZ (sep:List UInt8) (k:Nat):∀ r:List (List UInt8),(∀ x∈r,x.length<=k)->(Lib.joinTail sep r).length<=r.length * (sep.length + k)
 | [],_=>by simp [Lib.joinTail]
 | x :: r,h=>by
  have h1:=uZ sep k r (fun y hy=>h y (List.mem_cons_of_mem _ hy))
  have h2:=h x List.mem_cons_self
  have:Lib.joinTail sep (x :: r)=sep ++ x ++ Lib.joinTail sep r:=rfl
  rw [this]
  simp only [List.length_append,List.length_cons,Nat.add_mul,Nat.one_mul]
  omega
theorem yI (sep:List UInt8) (k:Nat):∀ r:List (List UInt8),(∀ x∈r,x.length<=k)->(Lib.join r sep).length<=r.length * (sep.length + k)
 | [],_=>by simp [Lib.join]
 | x :: r,h=>by
  have h1:=uZ sep k r (fun y hy=>h y (List.mem_cons_of_mem _ hy))
  have h2:=h x List.mem_cons_self
  rw [Lib.join_cons]
  simp only [List.length_append,List.length_cons,Nat.add_mul,Nat.one_mul]
  omega
theorem wK {v:List Int} (hv:∀ n∈v,cV .i64 n):∀ x∈v.map Lib.itoa,x.length<=21:=by
 intro x hx
 obtain ⟨n,hn,rfl⟩:=List.mem_map.1 hx
 exact fA n (hv n hn)
theorem aDb (v:List Int) (sep:List UInt8) (hv:∀ n∈v,cV .i64 n) (hl:v.length<=1000) (hs:sep.length<=1000):Fn prog 98 [.sl false 1 (dl iD v),.str sep] (fun rs=>rs=[.str (Lib.join (v.map Lib.itoa) sep)]):=by
 have hL:=yI sep 21 (v.map Lib.itoa) (wK hv)
 have hb:(v.map Lib.itoa).length * (sep.length + 21)<=1000 * 1021:=Nat.mul_le_mul (by simpa using hl) (by omega)
 have hJ:=aLX (v.map Lib.itoa) sep (by simp; omega) (by omega)
 refine bV (fn:=f98) (by exact func98) c98 r98 (n:=27) (by rfl) (rv:=[.tmp 4]) (by rfl) (by simp) ?_
 unfold m98
 try simp only [wQ]
 simp only [↓wA,↓wC,wB,aY,aW,reduceEqDiff,reduceAdd,reduceSub,reduceIte,reduceCtorEq,Nat.reduceBEq,reduceLT]
 simp only [a7,↓wA,↓wC,wB,aY,aW,reduceEqDiff,reduceAdd,reduceSub,reduceIte,reduceCtorEq,Nat.reduceBEq,reduceLT]
 refine bK (by omega) ?_
 have hz:iM (List.replicate (↑v.length:Int).toNat (D.str []))=dl D.str ((v.map Lib.itoa).take 0 ++ List.replicate (v.length - 0) []):=by
  rw [aB6]; simp
 rw [hz]
 refine cP v.length (fun i:Nat=>⟨[(1,.d (.str sep)),(5,.own 0),(11,.d (.sl false 1 (dl iD v))),(12,.d (.int .i64 v.length)),(13,.d (.int .i64 i))],[.val (.sl true 1 (dl D.str ((v.map Lib.itoa).take i ++ List.replicate (v.length - i) [])))]⟩) (fun _=>True) (bF _ rfl ⟨⟨rfl,rfl⟩,⟨rfl,rfl⟩,⟨rfl,rfl⟩,⟨rfl,rfl⟩,⟨rfl,rfl⟩,trivial⟩) trivial ?_ ?_
 ·intro i hlt _ hd h0
  obtain ⟨n,hr⟩:=cK hlt
  have hrs:(v.map Lib.itoa)[i]?=some (Lib.itoa n):=by rw [List.getElem?_map,hr]; rfl
  have hD:=lO n (hv n (List.mem_of_getElem? hr))
  have hn:((v.map Lib.itoa).take i ++ List.replicate (v.length - i) ([]:List UInt8))[i]?=some []:=by
   rw [List.getElem?_append_right (by simp; omega),List.length_take,List.length_map,Nat.min_eq_left (by omega),Nat.sub_self,show v.length - i=(v.length - (i + 1)) + 1 by omega]; rfl
  have hfs:(dl D.str ((v.map Lib.itoa).take i ++ List.replicate (v.length - i) ([]:List UInt8))).setN i (D.str (Lib.itoa n))=dl D.str ((v.map Lib.itoa).take (i + 1) ++ List.replicate (v.length - (i + 1)) []):=by
   have hl:v.length=(v.map Lib.itoa).length:=by simp
   rw [i8]
   conv=>lhs; rw [hl]
   conv=>rhs; rw [hl]
   rw [aF0 hrs]
  repeat' (first|(simp only [a7,bW,hd,h0,Int.toNat_natCast,hr,hn,hfs,Option.map_some,aV,e9,iD,↓wA,↓wC,wB,aY,aW,reduceEqDiff,reduceAdd,reduceSub,reduceIte,reduceCtorEq,Nat.reduceBEq,reduceLT])|(refine aZ hD rfl rfl ?_)|(with_reducible refine bA ?_ ?_; focus (simp only [cV]; omega))|((first|apply aO|apply aQ|apply aK)<;>intro h<;>try simp only [h]))
  all_goals exact ⟨i + 1,(bF _ rfl ⟨⟨rfl,rfl⟩,⟨rfl,rfl⟩,⟨rfl,rfl⟩,⟨rfl,rfl⟩,⟨rfl,rfl⟩,trivial⟩),by omega,by omega⟩
 ·intro _ hd
  have h1:(v.map Lib.itoa).take v.length=v.map Lib.itoa:=List.take_of_length_le (by simp)
  rw [h1,Nat.sub_self,List.replicate_zero,List.append_nil]
  repeat' (first|(simp only [a7,hd,↓wA,↓wC,wB,aY,aW,reduceEqDiff,reduceAdd,reduceSub,reduceIte,reduceCtorEq,Nat.reduceBEq,reduceLT])|(refine aZ hJ (by simp [cA,cW,oV,D.unown,jG]) rfl ?_)|((first|apply aO|apply aQ|apply aK)<;>intro h<;>try simp only [h]))
  all_goals trace_state
def kU (v:List Int):List UInt8:=if v=[] then [] else [32,104,101,108,100,32] ++ Lib.join (v.map Lib.itoa) [44]
theorem aEe (u:List Int) (n:Int):kU (u ++ [n])=kU u ++ (if u=[] then [32,104,101,108,100,32] else [44]) ++ Lib.itoa n:=by
 cases u with
 | nil=>simp [kU,Lib.join_one]
 | cons x r =>
  have h1:Lib.joinTail [44] (r.map Lib.itoa ++ [Lib.itoa n])=Lib.joinTail [44] (r.map Lib.itoa) ++ ([44] ++ Lib.itoa n):=by simp [Lib.joinTail]
  simp only [kU,List.cons_append,if_neg (List.cons_ne_nil _ _),List.map_cons,List.map_append,List.map_nil,Lib.join_cons,h1,List.append_assoc]
theorem aDd {v:List Int} {i:Nat} {n:Int} (hr:v[i]?=some n):kU (v.take (i + 1))=kU (v.take i) ++ (if i=0 then [32,104,101,108,100,32] else [44]) ++ Lib.itoa n:=by
 have hi:=bC hr
 rw [fF hr,aEe]
 by_cases h:i=0
 ·subst h; simp
 ·have:v.take i≠[]:=by
   intro h'
   have:=congrArg List.length h'
   rw [List.length_take,Nat.min_eq_left (by omega)] at this
   exact h this
  rw [if_neg this,if_neg h]
theorem rW {v:List Int} (hv:∀ n∈v,cV .i64 n):(kU v).length<=6 + v.length * 22:=by
 unfold kU
 split
 ·simp
 ·have:=yI [44] 21 (v.map Lib.itoa) (wK hv)
  simp only [List.length_append,List.length_map,List.length_cons,List.length_nil] at this ⊢
  omega
def aGH (a:Int):List UInt8:=if a=1 then [107,101,101,112] else if a=2 then [116,114,97,110,115,102,101,114] else [100,101,115,116,114,111,121]
def txt (x:Cs):List UInt8:=aGH x.a ++ [32,100,117,101,32] ++ Lib.itoa x.d ++ kU x.h
theorem aAi {x:Cs} (h:d7 x=true):(x.a=1\/x.a=2\/x.a=3)/\(0<=x.i/\cV .i64 x.i)/\(0<=x.d/\cV .i64 x.d)/\x.h.length<=5/\∀ n∈x.h,0<=n/\cV .i64 n:=by
 simp only [d7,Bool.and_eq_true,bX,decide_eq_true_eq,List.all_eq_true] at h
 obtain ⟨⟨⟨⟨h1,h2⟩,h3⟩,h4⟩,h5,_⟩:=h
 refine ⟨by omega,⟨by omega,by simp only [cV]; omega⟩,⟨by omega,by simp only [cV]; omega⟩,by omega,fun n hn=>?_⟩
 have:=h5 n hn
 exact ⟨by omega,by simp only [cV]; omega⟩
theorem aIK (a:Int):(aGH a).length<=8:=by
 unfold aGH
 split
 ·simp
 ·split<;>simp
theorem aC2:((1:Int) - 1).toNat=0:=rfl
theorem aDn:((2:Int) - 1).toNat=1:=rfl
theorem x9:((3:Int) - 1).toNat=2:=rfl
theorem u0:decide ((0:Int) < ((0:Nat):Int))=false:=rfl
theorem aCb:((1:Int)).toNat=1:=rfl
theorem aBI:((2:Int)).toNat=2:=rfl
theorem wH:((3:Int)).toNat=3:=rfl
theorem aDw (x:Cs) (h:d7 x=true):Fn prog 65 [x.s] (fun rs=>rs=[.str (txt x)]):=by
 obtain ⟨hA,_,h3,h4,h5⟩:=aAi h
 have hD:=lO x.d h3.2
 have hH:=aDb x.h [44] (fun n hn=>(h5 n hn).2) (by omega) (by simp)
 have hT:=rW (v:=x.h) (fun n hn=>(h5 n hn).2)
 have hi:=fA x.d h3.2
 have hJl:=yI [44] 21 (x.h.map Lib.itoa) (wK (fun n hn=>(h5 n hn).2))
 simp only [List.length_map,List.length_cons,List.length_nil] at hJl
 obtain ⟨xi,a,d,hs⟩:=x
 simp only at hA h3 h4 h5 hD hH hT hi hJl
 unfold txt
 rcases hA with rfl|rfl|rfl
 all_goals
  cases hs with
  | nil =>
   refine bV (fn:=f65) (by exact func65) c65 r65 (n:=26) (by rfl) (rv:=[.tmp 2]) (by rfl) (by simp) ?_
   unfold m65
   try simp only [wQ]
   simp only [Cs.s,Cs.p]
   repeat' (first|(simp only [aV,bJ,u0,aC2,aDn,x9,a7,↓wA,↓wC,wB,aY,aW,reduceEqDiff,reduceAdd,reduceSub,reduceIte,reduceCtorEq,Nat.reduceBEq,reduceLT])|(refine aZ hD rfl rfl ?_)|(refine cT ?_)|(with_reducible refine And.intro ?_ ?_)|(with_reducible refine bK ?_ ?_; focus ((try simp only [List.length_append,List.length_cons,List.length_nil]); omega))|(with_reducible refine bA ?_ ?_; focus (simp only [cV]; omega))|((first|apply aO|apply aQ|apply aK)<;>intro h<;>try simp only [h]))
   all_goals (simp [aGH,kU]; done)
  | cons n r =>
   have hd0:decide ((0:Int) < ((n :: r).length:Int))=true:=decide_eq_true (by simp only [List.length_cons]; omega)
   have hd1:decide (((n :: r).length:Int) > 0)=true:=hd0
   have hT2:kU (n :: r)=[32,104,101,108,100,32] ++ Lib.join ((n :: r).map Lib.itoa) [44]:=rfl
   generalize n :: r=hs at *
   refine bV (fn:=f65) (by exact func65) c65 r65 (n:=26) (by rfl) (rv:=[.tmp 2]) (by rfl) (by simp) ?_
   unfold m65
   try simp only [wQ]
   simp only [Cs.s,Cs.p]
   repeat' (first|(simp only [aV,bJ,aC2,aDn,x9,a7,hd0,hd1,↓wA,↓wC,wB,aY,aW,reduceEqDiff,reduceAdd,reduceSub,reduceIte,reduceCtorEq,Nat.reduceBEq,reduceLT])|(refine aZ hD rfl rfl ?_)|(refine aZ hH rfl rfl ?_)|(refine cT ?_)|(with_reducible refine And.intro ?_ ?_)|(with_reducible refine bK ?_ ?_; focus ((try simp only [List.length_append,List.length_cons,List.length_nil]); omega))|(with_reducible refine bA ?_ ?_; focus (simp only [cV]; omega))|((first|apply aO|apply aQ|apply aK)<;>intro h<;>try simp only [h]))
   all_goals (simp [aGH,hT2]; done)
def pre (a:Int):List UInt8:=aGH a ++ [32,100,117,101,32]
theorem aNk (t:List UInt8):(107 :: 101 :: 101 :: 112 :: 32 :: 100 :: 117 :: 101 :: 32 :: t:List UInt8)=pre 1 ++ t:=rfl
theorem aMQ (t:List UInt8):(116 :: 114 :: 97 :: 110 :: 115 :: 102 :: 101 :: 114 :: 32 :: 100 :: 117 :: 101 :: 32 :: t:List UInt8)=pre 2 ++ t:=rfl
theorem aM1 (t:List UInt8):(100 :: 101 :: 115 :: 116 :: 114 :: 111 :: 121 :: 32 :: 100 :: 117 :: 101 :: 32 :: t:List UInt8)=pre 3 ++ t:=rfl
theorem aLn (x:Cs):txt x=pre x.a ++ (Lib.itoa x.d ++ kU x.h):=by simp [txt,pre]
theorem aB4 (a:Int):(pre a).length<=13:=by
 have:=aIK a
 simp only [pre,List.length_append,List.length_cons,List.length_nil]
 omega
theorem aBN (v:List Int):kU (v.take 0)=[]:=rfl
theorem aBD {v:List Int} {i:Nat} {n:Int} (hr:v[i]?=some n) (h:i=0):kU (v.take (i + 1))=kU (v.take i) ++ (32 :: 104 :: 101 :: 108 :: 100 :: 32 :: Lib.itoa n):=by
 rw [aDd hr,if_pos h,List.append_assoc]; rfl
theorem aB5 {v:List Int} {i:Nat} {n:Int} (hr:v[i]?=some n) (h:¬ i=0):kU (v.take (i + 1))=kU (v.take i) ++ (44 :: Lib.itoa n):=by
 rw [aDd hr,if_neg h,List.append_assoc]; rfl
theorem aEA (x:Cs) (h:d7 x=true):Fn prog 67 [x.s] (fun rs=>rs=[.str (txt x)]):=by
 obtain ⟨hA,_,h3,h4,h5⟩:=aAi h
 have hD:=l7 x.d h3.1 h3.2
 have hi:=fA x.d h3.2
 rw [aLn]
 obtain ⟨xi,a,d,hs⟩:=x
 simp only at hA h3 h4 h5 hD hi ⊢
 rcases hA with rfl|rfl|rfl
 ·skip
  refine bV (fn:=f67) (by exact func67) c67 r67 (n:=37) (by rfl) (rv:=[.tmp 2]) (by rfl) (by simp) ?_
  unfold m67
  try simp only [wQ]
  simp only [Cs.s,Cs.p]
  repeat' (first|(simp only [aV,bJ,u0,aCb,aBI,wH,↓wA,↓wC,wB,aY,aW,reduceEqDiff,reduceAdd,reduceSub,reduceIte,reduceCtorEq,Nat.reduceBEq,reduceLT])|(refine aZ hD rfl rfl ?_)|(refine cT ?_)|(with_reducible refine And.intro ?_ ?_)|(with_reducible refine bK ?_ ?_; focus ((try simp only [List.length_append,List.length_cons,List.length_nil]); omega))|(with_reducible refine bA ?_ ?_; focus (simp only [cV]; omega))|((first|apply aO|apply aQ|apply aK)<;>intro h<;>try simp only [h]))
  all_goals simp only [aNk,aMQ,aM1]
  all_goals have hpl:=aB4 1
  all_goals refine cP hs.length (fun i:Nat=>⟨[(1,.ptr 0 0 []),(3,.d (.str (pre 1 ++ (Lib.itoa d ++ kU (hs.take i))))),(4,.d (.int .i64 i))],[.box (.st (.cons (.int .i64 xi) (.cons (.int .i64 1) (.cons (.int .i64 d) (.cons (.sl false 1 (dl iD hs)) .nil)))))]⟩) (fun _=>True) (by rw [aBN,List.append_nil]; exact (bF _ rfl ⟨⟨rfl,rfl⟩,⟨rfl,rfl⟩,⟨rfl,rfl⟩,trivial⟩)) trivial ?_ ?_
  all_goals first
   |(intro _ hd
     repeat' (first|(simp only [aV,bJ,a7,hd,List.take_length,↓wA,↓wC,wB,aY,aW,reduceEqDiff,reduceAdd,reduceSub,reduceIte,reduceCtorEq,Nat.reduceBEq,reduceLT])|((first|apply aO|apply aQ|apply aK)<;>intro h<;>try simp only [h]))
     done)
   | skip
  all_goals
   intro i hlt _ hd h0
   obtain ⟨n,hr⟩:=cK hlt
   have hn5:=h5 n (List.mem_of_getElem? hr)
   have hN:=l7 n hn5.1 hn5.2
   have hnl:=fA n hn5.2
   have hTl:=rW (v:=hs.take i) (fun m hm=>(h5 m (List.mem_of_mem_take hm)).2)
   rw [List.length_take,Nat.min_eq_left (by omega)] at hTl
   by_cases hi0:i=0
   ·have hq:decide ((i:Int)=0)=true:=decide_eq_true (by omega)
    have hx:=aBD hr hi0
    repeat' (first|(simp only [aV,bJ,a7,bW,hd,h0,hq,Int.toNat_natCast,hr,Option.map_some,e9,iD,↓wA,↓wC,wB,aY,aW,reduceEqDiff,reduceAdd,reduceSub,reduceIte,reduceCtorEq,Nat.reduceBEq,reduceLT])|(refine aZ hN rfl rfl ?_)|(with_reducible refine bK ?_ ?_; focus ((try simp only [List.length_append,List.length_cons,List.length_nil]); omega))|(with_reducible refine bA ?_ ?_; focus (simp only [cV]; omega))|((first|apply aO|apply aQ|apply aK)<;>intro h<;>try simp only [h]))
    all_goals (refine ⟨i + 1,?_,by omega,by omega⟩; rw [hx]; (try simp only [List.append_assoc,List.cons_append,List.nil_append]); exact (bF _ rfl ⟨⟨rfl,rfl⟩,⟨rfl,rfl⟩,⟨rfl,rfl⟩,trivial⟩))
   ·have hq:decide ((i:Int)=0)=false:=decide_eq_false (by omega)
    have hx:=aB5 hr hi0
    repeat' (first|(simp only [aV,bJ,a7,bW,hd,h0,hq,Int.toNat_natCast,hr,Option.map_some,e9,iD,↓wA,↓wC,wB,aY,aW,reduceEqDiff,reduceAdd,reduceSub,reduceIte,reduceCtorEq,Nat.reduceBEq,reduceLT])|(refine aZ hN rfl rfl ?_)|(with_reducible refine bK ?_ ?_; focus ((try simp only [List.length_append,List.length_cons,List.length_nil]); omega))|(with_reducible refine bA ?_ ?_; focus (simp only [cV]; omega))|((first|apply aO|apply aQ|apply aK)<;>intro h<;>try simp only [h]))
    all_goals (refine ⟨i + 1,?_,by omega,by omega⟩; rw [hx]; (try simp only [List.append_assoc,List.cons_append,List.nil_append]); exact (bF _ rfl ⟨⟨rfl,rfl⟩,⟨rfl,rfl⟩,⟨rfl,rfl⟩,trivial⟩))
 ·skip
  refine bV (fn:=f67) (by exact func67) c67 r67 (n:=37) (by rfl) (rv:=[.tmp 2]) (by rfl) (by simp) ?_
  unfold m67
  try simp only [wQ]
  simp only [Cs.s,Cs.p]
  repeat' (first|(simp only [aV,bJ,u0,aCb,aBI,wH,↓wA,↓wC,wB,aY,aW,reduceEqDiff,reduceAdd,reduceSub,reduceIte,reduceCtorEq,Nat.reduceBEq,reduceLT])|(refine aZ hD rfl rfl ?_)|(refine cT ?_)|(with_reducible refine And.intro ?_ ?_)|(with_reducible refine bK ?_ ?_; focus ((try simp only [List.length_append,List.length_cons,List.length_nil]); omega))|(with_reducible refine bA ?_ ?_; focus (simp only [cV]; omega))|((first|apply aO|apply aQ|apply aK)<;>intro h<;>try simp only [h]))
  all_goals simp only [aNk,aMQ,aM1]
  all_goals have hpl:=aB4 2
  all_goals refine cP hs.length (fun i:Nat=>⟨[(1,.ptr 0 0 []),(3,.d (.str (pre 2 ++ (Lib.itoa d ++ kU (hs.take i))))),(4,.d (.int .i64 i))],[.box (.st (.cons (.int .i64 xi) (.cons (.int .i64 2) (.cons (.int .i64 d) (.cons (.sl false 1 (dl iD hs)) .nil)))))]⟩) (fun _=>True) (by rw [aBN,List.append_nil]; exact (bF _ rfl ⟨⟨rfl,rfl⟩,⟨rfl,rfl⟩,⟨rfl,rfl⟩,trivial⟩)) trivial ?_ ?_
  all_goals first
   |(intro _ hd
     repeat' (first|(simp only [aV,bJ,a7,hd,List.take_length,↓wA,↓wC,wB,aY,aW,reduceEqDiff,reduceAdd,reduceSub,reduceIte,reduceCtorEq,Nat.reduceBEq,reduceLT])|((first|apply aO|apply aQ|apply aK)<;>intro h<;>try simp only [h]))
     done)
   | skip
  all_goals
   intro i hlt _ hd h0
   obtain ⟨n,hr⟩:=cK hlt
   have hn5:=h5 n (List.mem_of_getElem? hr)
   have hN:=l7 n hn5.1 hn5.2
   have hnl:=fA n hn5.2
   have hTl:=rW (v:=hs.take i) (fun m hm=>(h5 m (List.mem_of_mem_take hm)).2)
   rw [List.length_take,Nat.min_eq_left (by omega)] at hTl
   by_cases hi0:i=0
   ·have hq:decide ((i:Int)=0)=true:=decide_eq_true (by omega)
    have hx:=aBD hr hi0
    repeat' (first|(simp only [aV,bJ,a7,bW,hd,h0,hq,Int.toNat_natCast,hr,Option.map_some,e9,iD,↓wA,↓wC,wB,aY,aW,reduceEqDiff,reduceAdd,reduceSub,reduceIte,reduceCtorEq,Nat.reduceBEq,reduceLT])|(refine aZ hN rfl rfl ?_)|(with_reducible refine bK ?_ ?_; focus ((try simp only [List.length_append,List.length_cons,List.length_nil]); omega))|(with_reducible refine bA ?_ ?_; focus (simp only [cV]; omega))|((first|apply aO|apply aQ|apply aK)<;>intro h<;>try simp only [h]))
    all_goals (refine ⟨i + 1,?_,by omega,by omega⟩; rw [hx]; (try simp only [List.append_assoc,List.cons_append,List.nil_append]); exact (bF _ rfl ⟨⟨rfl,rfl⟩,⟨rfl,rfl⟩,⟨rfl,rfl⟩,trivial⟩))
   ·have hq:decide ((i:Int)=0)=false:=decide_eq_false (by omega)
    have hx:=aB5 hr hi0
    repeat' (first|(simp only [aV,bJ,a7,bW,hd,h0,hq,Int.toNat_natCast,hr,Option.map_some,e9,iD,↓wA,↓wC,wB,aY,aW,reduceEqDiff,reduceAdd,reduceSub,reduceIte,reduceCtorEq,Nat.reduceBEq,reduceLT])|(refine aZ hN rfl rfl ?_)|(with_reducible refine bK ?_ ?_; focus ((try simp only [List.length_append,List.length_cons,List.length_nil]); omega))|(with_reducible refine bA ?_ ?_; focus (simp only [cV]; omega))|((first|apply aO|apply aQ|apply aK)<;>intro h<;>try simp only [h]))
    all_goals (refine ⟨i + 1,?_,by omega,by omega⟩; rw [hx]; (try simp only [List.append_assoc,List.cons_append,List.nil_append]); exact (bF _ rfl ⟨⟨rfl,rfl⟩,⟨rfl,rfl⟩,⟨rfl,rfl⟩,trivial⟩))
 ·skip
  refine bV (fn:=f67) (by exact func67) c67 r67 (n:=37) (by rfl) (rv:=[.tmp 2]) (by rfl) (by simp) ?_
  unfold m67
  try simp only [wQ]
  simp only [Cs.s,Cs.p]
  repeat' (first|(simp only [aV,bJ,u0,aCb,aBI,wH,↓wA,↓wC,wB,aY,aW,reduceEqDiff,reduceAdd,reduceSub,reduceIte,reduceCtorEq,Nat.reduceBEq,reduceLT])|(refine aZ hD rfl rfl ?_)|(refine cT ?_)|(with_reducible refine And.intro ?_ ?_)|(with_reducible refine bK ?_ ?_; focus ((try simp only [List.length_append,List.length_cons,List.length_nil]); omega))|(with_reducible refine bA ?_ ?_; focus (simp only [cV]; omega))|((first|apply aO|apply aQ|apply aK)<;>intro h<;>try simp only [h]))
  all_goals simp only [aNk,aMQ,aM1]
  all_goals have hpl:=aB4 3
  all_goals refine cP hs.length (fun i:Nat=>⟨[(1,.ptr 0 0 []),(3,.d (.str (pre 3 ++ (Lib.itoa d ++ kU (hs.take i))))),(4,.d (.int .i64 i))],[.box (.st (.cons (.int .i64 xi) (.cons (.int .i64 3) (.cons (.int .i64 d) (.cons (.sl false 1 (dl iD hs)) .nil)))))]⟩) (fun _=>True) (by rw [aBN,List.append_nil]; exact (bF _ rfl ⟨⟨rfl,rfl⟩,⟨rfl,rfl⟩,⟨rfl,rfl⟩,trivial⟩)) trivial ?_ ?_
  all_goals first
   |(intro _ hd
     repeat' (first|(simp only [aV,bJ,a7,hd,List.take_length,↓wA,↓wC,wB,aY,aW,reduceEqDiff,reduceAdd,reduceSub,reduceIte,reduceCtorEq,Nat.reduceBEq,reduceLT])|((first|apply aO|apply aQ|apply aK)<;>intro h<;>try simp only [h]))
     done)
   | skip
  all_goals
   intro i hlt _ hd h0
   obtain ⟨n,hr⟩:=cK hlt
   have hn5:=h5 n (List.mem_of_getElem? hr)
   have hN:=l7 n hn5.1 hn5.2
   have hnl:=fA n hn5.2
   have hTl:=rW (v:=hs.take i) (fun m hm=>(h5 m (List.mem_of_mem_take hm)).2)
   rw [List.length_take,Nat.min_eq_left (by omega)] at hTl
   by_cases hi0:i=0
   ·have hq:decide ((i:Int)=0)=true:=decide_eq_true (by omega)
    have hx:=aBD hr hi0
    repeat' (first|(simp only [aV,bJ,a7,bW,hd,h0,hq,Int.toNat_natCast,hr,Option.map_some,e9,iD,↓wA,↓wC,wB,aY,aW,reduceEqDiff,reduceAdd,reduceSub,reduceIte,reduceCtorEq,Nat.reduceBEq,reduceLT])|(refine aZ hN rfl rfl ?_)|(with_reducible refine bK ?_ ?_; focus ((try simp only [List.length_append,List.length_cons,List.length_nil]); omega))|(with_reducible refine bA ?_ ?_; focus (simp only [cV]; omega))|((first|apply aO|apply aQ|apply aK)<;>intro h<;>try simp only [h]))
    all_goals (refine ⟨i + 1,?_,by omega,by omega⟩; rw [hx]; (try simp only [List.append_assoc,List.cons_append,List.nil_append]); exact (bF _ rfl ⟨⟨rfl,rfl⟩,⟨rfl,rfl⟩,⟨rfl,rfl⟩,trivial⟩))
   ·have hq:decide ((i:Int)=0)=false:=decide_eq_false (by omega)
    have hx:=aB5 hr hi0
    repeat' (first|(simp only [aV,bJ,a7,bW,hd,h0,hq,Int.toNat_natCast,hr,Option.map_some,e9,iD,↓wA,↓wC,wB,aY,aW,reduceEqDiff,reduceAdd,reduceSub,reduceIte,reduceCtorEq,Nat.reduceBEq,reduceLT])|(refine aZ hN rfl rfl ?_)|(with_reducible refine bK ?_ ?_; focus ((try simp only [List.length_append,List.length_cons,List.length_nil]); omega))|(with_reducible refine bA ?_ ?_; focus (simp only [cV]; omega))|((first|apply aO|apply aQ|apply aK)<;>intro h<;>try simp only [h]))
    all_goals (refine ⟨i + 1,?_,by omega,by omega⟩; rw [hx]; (try simp only [List.append_assoc,List.cons_append,List.nil_append]); exact (bF _ rfl ⟨⟨rfl,rfl⟩,⟨rfl,rfl⟩,⟨rfl,rfl⟩,trivial⟩))
end Go.Pe.Tryz
set_option maxRecDepth 100000
set_option maxHeartbeats 4000000
set_option linter.all false
namespace Go.Pe.Tryz
open Nat (reduceEqDiff reduceAdd reduceSub reduceLT)
open Go.Proofs.Tryz
theorem aAM (p:Cs->Bool) (g:Nat) (c:D) (xs:List Cs) (hc:c.caps=true) (he:eU prog.P g=true) (hlen:xs.length<=1048576) (hp:∀ x∈xs,Fn prog g (Cs.s x :: c.list) (fun rs=>rs=[.bool (p x)])) :
  Fn prog 95 [.sl false 4 (dl Cs.s xs),.clo g c] (fun rs=>rs=[.int .i64 (jL p xs)]):=by
 refine bV (fn:=f95) (by exact func95) c95 r95 (n:=19) (by rfl) (rv:=[.tmp 4]) (by rfl) (by simp) ?_
 unfold m95
 try simp only [wQ]
 simp only [a7,↓wA,↓wC,wB,aY,aW,reduceEqDiff,reduceAdd,reduceSub,reduceIte,reduceCtorEq,Nat.reduceBEq,reduceLT]
 refine cP xs.length (fun i:Nat=>⟨[(0,.d (.sl false 4 (dl Cs.s xs))),(1,.d (.clo g c)),(7,.d (.int .i64 xs.length)),(8,.d (.int .i64 i))],[]⟩) (fun i=>∀ j r,j < i->xs[j]?=some r->p r=false) (bF _ rfl ⟨⟨rfl,rfl⟩,⟨rfl,rfl⟩,⟨rfl,rfl⟩,⟨rfl,rfl⟩,trivial⟩) (fun j r hj=>by omega) ?_ ?_
 ·intro i hlt hinv hd h0
  obtain ⟨r,hr⟩:=cK hlt
  have hcl:=hp r (List.mem_of_getElem? hr)
  simp only [hd,h0,bW,Int.toNat_natCast,hr,Option.map_some,aV,↓gH,↓wA,↓wC,wB,aY,aW,reduceEqDiff,reduceAdd,reduceSub,reduceIte,reduceCtorEq,Nat.reduceBEq,reduceLT]
  refine r9 (ds:=[Cs.s r]) hcl he hc (by simp [cA,cW,oV,Cs.s_unown]) rfl ?_
  cases hpr:p r with
  | true =>
   simp only [↓wA,↓wC,wB,aY,aW,reduceEqDiff,reduceAdd,reduceSub,reduceIte,reduceCtorEq,Nat.reduceBEq,reduceLT]
   rw [pF hr hpr hinv]
  | false =>
   simp only [↓wA,↓wC,wB,aY,aW,reduceEqDiff,reduceAdd,reduceSub,reduceIte,reduceCtorEq,Nat.reduceBEq,reduceLT]
   refine bA (by simp only [cV]; omega) ?_
   refine d8 (bF _ rfl ⟨⟨rfl,rfl⟩,⟨rfl,rfl⟩,⟨rfl,rfl⟩,⟨rfl,rfl⟩,trivial⟩) hlt fun j s hj hs=>?_
   by_cases e:j=i
   ·subst e; rw [hr] at hs; injection hs with hs; rw [<- hs]; exact hpr
   ·exact hinv j s (by omega) hs
 ·intro hinv hd
  simp only [hd,↓wA,↓wC,wB,aY,aW,reduceEqDiff,reduceAdd,reduceSub,reduceIte,reduceCtorEq,Nat.reduceBEq,reduceLT]
  rw [mZ fun j r hj=>hinv j r (bC hj) hj]
def fT (xs:List Cs) (id:Int):Int:=jL (fun x:Cs=>decide (x.i=id)) xs
theorem kT (xs:List Cs) (id:Int):(decide (fT xs id < 0)=true/\decide (0<=fT xs id)=false)\/∃ (i:Nat) (x:Cs),fT xs id=(i:Int)/\xs[i]?=some x/\x.i=id:=by
 by_cases h:0<=fT xs id
 ·obtain ⟨i,x,h1,h2,h3⟩:=aDx h
  exact .inr ⟨i,x,h1,h2,by simpa using h3⟩
 ·exact .inl ⟨decide_eq_true (by omega),decide_eq_false h⟩
theorem aEt (x:Cs) (id:Int):Fn prog 96 [x.s,.ptr (.int .i64 id)] (fun rs=>rs=[.bool (decide (x.i=id))]):=by
 refine bV (fn:=f96) (by exact func96) c96 r96 (n:=8) (by rfl) (rv:=[.tmp 3]) (by rfl) (by simp) ?_
 unfold m96
 try simp only [wQ]
 simp only [Cs.s,Cs.p]
 repeat' (first|(simp only [bJ,aV,↓wA,↓wC,wB,aY,aW,reduceEqDiff,reduceAdd,reduceSub,reduceIte,reduceCtorEq,Nat.reduceBEq,reduceLT])|((first|apply aO|apply aQ|apply aK)<;>intro h<;>try simp only [h]))
theorem vW (o:Off) (id:Int) (ho:o.ok0):Fn prog 64 [o.s,.int .i64 id] (fun rs=>rs=[.int .i64 (fT o.cs id)]):=by
 have h:=aAM (fun x=>decide (x.i=id)) 96 (.cons (.ptr (.int .i64 id)) .nil) o.cs rfl aSM ho.1.1 (fun x _=>aEt x id)
 refine fK (ps:=[[1,0]]) (fn:=f64) (by exact func64) c64 r64 (n:=9) (by rfl) (rv:=[.tmp 4]) (by rfl) (by simp) ?_
 unfold m64
 try simp only [wQ]
 simp only [dP,eR]
 repeat' (first|(simp only [Off.s_noOwn,Off.s_isV,aV,↓wA,↓wC,wB,aY,aW,reduceEqDiff,reduceAdd,reduceSub,reduceIte,reduceCtorEq,Nat.reduceBEq,reduceLT])|((first|apply aO|apply aQ|apply aK)<;>intro h<;>try simp only [h]))
 refine bR (gG 1 rfl) ?_
 repeat' (first|(simp only [Off.s_noOwn,Off.s_isV,↓b9,aV,bB,gZ,g7,↓wA,↓wC,wB,aY,aW,reduceEqDiff,reduceAdd,reduceSub,reduceIte,reduceCtorEq,Nat.reduceBEq,reduceLT])|(refine aZ (h) rfl rfl ?_)|(refine a6 (h) rfl rfl ?_)|((first|apply aO|apply aQ|apply aK)<;>intro h<;>try simp only [h]))
 all_goals rfl
theorem jN (o:Off) (id:Int) (ho:o.ok0):Fn prog 66 [o.s,.int .i64 id] (fun rs=>rs=[.int .i64 (fT o.cs id)]):=by
 have hlen:=ho.1.1
 refine bV (fn:=f66) (by exact func66) c66 r66 (n:=22) (by rfl) (rv:=[.tmp 4]) (by rfl) (by simp) ?_
 unfold m66
 try simp only [wQ]
 repeat' (first|(simp only [Off.s_noOwn,Off.s_isV,aV,↓wA,↓wC,wB,aY,aW,reduceEqDiff,reduceAdd,reduceSub,reduceIte,reduceCtorEq,Nat.reduceBEq,reduceLT])|((first|apply aO|apply aQ|apply aK)<;>intro h<;>try simp only [h]))
 refine cP o.cs.length (fun i:Nat=>⟨[(1,.d (.int .i64 id)),(2,.ptr 0 0 []),(5,.d (.int .i64 i))],[.box o.s]⟩) (fun i=>∀ j r,j < i->o.cs[j]?=some r->decide (r.i=id)=false) (bF _ rfl ⟨⟨rfl,rfl⟩,⟨rfl,rfl⟩,⟨rfl,rfl⟩,trivial⟩) (fun j r hj=>by omega) ?_ ?_
 ·intro i hlt hinv hd h0
  obtain ⟨r,hr⟩:=cK hlt
  cases h:decide (r.i=id) with
  | true =>
   repeat' (first|(simp only [a7,bW,hd,h0,h,Int.toNat_natCast,hr,Option.map_some,aV,bB,gZ,g7,nJ,↓wA,↓wC,wB,aY,aW,reduceEqDiff,reduceAdd,reduceSub,reduceIte,reduceCtorEq,Nat.reduceBEq,reduceLT])|(refine bA (by simp only [cV]; omega) ?_)|((first|apply aO|apply aQ|apply aK)<;>intro h<;>try simp only [h]))
   all_goals rw [fT,pF hr h hinv]
  | false =>
   repeat' (first|(simp only [a7,bW,hd,h0,h,Int.toNat_natCast,hr,Option.map_some,aV,bB,gZ,g7,nJ,↓wA,↓wC,wB,aY,aW,reduceEqDiff,reduceAdd,reduceSub,reduceIte,reduceCtorEq,Nat.reduceBEq,reduceLT])|(refine bA (by simp only [cV]; omega) ?_)|((first|apply aO|apply aQ|apply aK)<;>intro h<;>try simp only [h]))
   all_goals
    refine d8 (bF _ rfl ⟨⟨rfl,rfl⟩,⟨rfl,rfl⟩,⟨rfl,rfl⟩,trivial⟩) hlt fun j s hj hs=>?_
    by_cases e:j=i
    ·subst e; rw [hr] at hs; injection hs with hs; rw [<- hs]; exact h
    ·exact hinv j s (by omega) hs
 ·intro hinv hd
  repeat' (first|(simp only [a7,hd,bB,aV,gZ,g7,↓wA,↓wC,wB,aY,aW,reduceEqDiff,reduceAdd,reduceSub,reduceIte,reduceCtorEq,Nat.reduceBEq,reduceLT])|((first|apply aO|apply aQ|apply aK)<;>intro h<;>try simp only [h]))
  all_goals rw [fT,mZ fun j r hj=>hinv j r (bC hj) hj]
theorem tN {o:Off} {i:Nat} {x:Cs} (h:cM o=true) (hr:o.cs[i]?=some x):d7 x=true:=by
 simp only [cM,Bool.and_eq_true] at h
 have:=List.all_eq_true.1 h.2 i (List.mem_range.2 (bC hr))
 rw [qX hr,Bool.and_eq_true] at this
 exact this.1
def aA2 (o:Off) (id:Int):List D:=if cM o=true then (if 0<=fT o.cs id then [.str (txt (o.cs[(fT o.cs id).toNat]?.getD ⟨0,0,0,[]⟩)),.bool true] else [.str [],.bool false]) else [.str [],.bool false]
theorem xK (o:Off) (id:Int) (ho:o.ok0):Fn prog 33 [o.s,.int .i64 id] (fun rs=>rs=aA2 o id):=by
 have hV:=jF o ho
 have hF:=vW o id ho
 unfold aA2
 cases hv:cM o with
 | false =>
  rw [hv] at hV
  refine bV (fn:=f33) (by exact func33) c33 r33 (n:=23) (by rfl) (rv:=[.tmp 4,.tmp 5]) (by rfl) (by simp) ?_
  unfold m33
  try simp only [wQ]
  repeat' (first|(simp only [Off.s_noOwn,Off.s_isV,↓b9,aV,↓wA,↓wC,wB,aY,aW,reduceEqDiff,reduceAdd,reduceSub,reduceIte,reduceCtorEq,Nat.reduceBEq,reduceLT])|(refine aZ hF (by simp [cA,cW,Off.s_unown]) rfl ?_)|(refine aZ hV (by simp [cA,cW,Off.s_unown]) rfl ?_)|((first|apply aO|apply aQ|apply aK)<;>intro h<;>try simp only [h]))
  all_goals simp
 | true =>
  rw [hv] at hV
  rcases kT o.cs id with ⟨hn,hn'⟩|⟨i,x,hi,hr,_⟩
  ·have hn2:=of_decide_eq_false hn'
   refine bV (fn:=f33) (by exact func33) c33 r33 (n:=23) (by rfl) (rv:=[.tmp 4,.tmp 5]) (by rfl) (by simp) ?_
   unfold m33
   try simp only [wQ]
   repeat' (first|(simp only [hn,Off.s_noOwn,Off.s_isV,↓b9,aV,↓wA,↓wC,wB,aY,aW,reduceEqDiff,reduceAdd,reduceSub,reduceIte,reduceCtorEq,Nat.reduceBEq,reduceLT])|(refine aZ hF (by simp [cA,cW,Off.s_unown]) rfl ?_)|(refine aZ hV (by simp [cA,cW,Off.s_unown]) rfl ?_)|((first|apply aO|apply aQ|apply aK)<;>intro h<;>try simp only [h]))
   all_goals simp [hn2]
  ·rw [hi] at hF ⊢
   have h0:(0:Int)<=(i:Int):=by omega
   have hn:decide ((i:Int) < 0)=false:=decide_eq_false (by omega)
   have hC:=aDw x (tN hv hr)
   refine bV (fn:=f33) (by exact func33) c33 r33 (n:=23) (by rfl) (rv:=[.tmp 4,.tmp 5]) (by rfl) (by simp) ?_
   unfold m33
   try simp only [wQ]
   repeat' (first|(simp only [hn,h0,bW,Int.toNat_natCast,hr,Option.map_some,Off.s_noOwn,Off.s_isV,↓b9,↓gH,bB,gZ,g7,aV,↓wA,↓wC,wB,aY,aW,reduceEqDiff,reduceAdd,reduceSub,reduceIte,reduceCtorEq,Nat.reduceBEq,reduceLT])|(refine aZ hF (by simp [cA,cW,Off.s_unown]) rfl ?_)|(refine aZ hV (by simp [cA,cW,Off.s_unown]) rfl ?_)|(refine aZ hC (by simp [cA,cW,Cs.s_unown]) rfl ?_)|((first|apply aO|apply aQ|apply aK)<;>intro h<;>try simp only [h]))
   all_goals simp [hr]
theorem xG (o:Off) (id:Int) (ho:o.ok0):Fn prog 34 [o.s,.int .i64 id] (fun rs=>rs=aA2 o id):=by
 have hV:=eW o ho
 have hF:=jN o id ho
 unfold aA2
 cases hv:cM o with
 | false =>
  rw [hv] at hV
  refine bV (fn:=f34) (by exact func34) c34 r34 (n:=23) (by rfl) (rv:=[.tmp 4,.tmp 5]) (by rfl) (by simp) ?_
  unfold m34
  try simp only [wQ]
  repeat' (first|(simp only [Off.s_noOwn,Off.s_isV,↓b9,aV,↓wA,↓wC,wB,aY,aW,reduceEqDiff,reduceAdd,reduceSub,reduceIte,reduceCtorEq,Nat.reduceBEq,reduceLT])|(refine aZ hF (by simp [cA,cW,Off.s_unown]) rfl ?_)|(refine aZ hV (by simp [cA,cW,Off.s_unown]) rfl ?_)|((first|apply aO|apply aQ|apply aK)<;>intro h<;>try simp only [h]))
  all_goals simp
 | true =>
  rw [hv] at hV
  rcases kT o.cs id with ⟨hn,hn'⟩|⟨i,x,hi,hr,_⟩
  ·have hn2:=of_decide_eq_false hn'
   refine bV (fn:=f34) (by exact func34) c34 r34 (n:=23) (by rfl) (rv:=[.tmp 4,.tmp 5]) (by rfl) (by simp) ?_
   unfold m34
   try simp only [wQ]
   repeat' (first|(simp only [hn,Off.s_noOwn,Off.s_isV,↓b9,aV,↓wA,↓wC,wB,aY,aW,reduceEqDiff,reduceAdd,reduceSub,reduceIte,reduceCtorEq,Nat.reduceBEq,reduceLT])|(refine aZ hF (by simp [cA,cW,Off.s_unown]) rfl ?_)|(refine aZ hV (by simp [cA,cW,Off.s_unown]) rfl ?_)|((first|apply aO|apply aQ|apply aK)<;>intro h<;>try simp only [h]))
   all_goals simp [hn2]
  ·rw [hi] at hF ⊢
   have h0:(0:Int)<=(i:Int):=by omega
   have hn:decide ((i:Int) < 0)=false:=decide_eq_false (by omega)
   have hC:=aEA x (tN hv hr)
   refine bV (fn:=f34) (by exact func34) c34 r34 (n:=23) (by rfl) (rv:=[.tmp 4,.tmp 5]) (by rfl) (by simp) ?_
   unfold m34
   try simp only [wQ]
   repeat' (first|(simp only [hn,h0,bW,Int.toNat_natCast,hr,Option.map_some,Off.s_noOwn,Off.s_isV,↓b9,↓gH,bB,gZ,g7,aV,↓wA,↓wC,wB,aY,aW,reduceEqDiff,reduceAdd,reduceSub,reduceIte,reduceCtorEq,Nat.reduceBEq,reduceLT])|(refine aZ hF (by simp [cA,cW,Off.s_unown]) rfl ?_)|(refine aZ hV (by simp [cA,cW,Off.s_unown]) rfl ?_)|(refine aZ hC (by simp [cA,cW,Cs.s_unown]) rfl ?_)|((first|apply aO|apply aQ|apply aK)<;>intro h<;>try simp only [h]))
   all_goals simp [hr]
end Go.Pe.Tryz
set_option maxRecDepth 100000
set_option maxHeartbeats 4000000
set_option linter.all false
namespace Go.Pe.Tryz
open Nat (reduceEqDiff reduceAdd reduceSub reduceLT)
def oI (id:Int):List Cs->Nat
 | []=>0
 | x :: xs=>if x.i < id then oI id xs + 1 else 0
theorem oZ {id:Int}:∀ (xs:List Cs) (j:Nat),j<=xs.length->(∀ m x,m < j->xs[m]?=some x->x.i < id)->(∀ x,xs[j]?=some x->¬ x.i < id)->oI id xs=j
 | [],j,h,_,_=>by
  simp at h
  subst h
  rfl
 | a :: t,0,_,_,h3=>by
  rw [oI,if_neg (h3 a rfl)]
 | a :: t,j + 1,h,h2,h3=>by
  rw [oI,if_pos (h2 0 a (by omega) rfl),oZ t j (by simpa using h) (fun m x hm hx=>h2 (m + 1) x (by omega) (by simpa using hx)) (fun x hx=>h3 x (by simpa using hx))]
def gM (x:Cs) (xs:List Cs):List Cs:=xs.take (oI x.i xs) ++ x :: xs.drop (oI x.i xs)
def l9 (v:Int) (x:Cs):Cs:={ x with h:=x.h.filter fun n=>!decide (n=v) }
def kM (id day:Int):List UInt8:=114 :: (Lib.itoa id ++ 32 :: 100 :: Lib.itoa day)
def jM (o:Off) (i:Nat) (x:Cs):Off :=
 if x.a=1 then { o with cs:=o.cs.eraseIdx i,kept:=o.kept + 1 }
 else if x.a=2 then { o with cs:=o.cs.eraseIdx i,moved:=o.moved + 1 }
 else { o with cs:=o.cs.eraseIdx i,led:=o.led ++ [kM x.i o.day] }
def cY (o:Off) (x:Cs):Bool:=decide (x.d<=o.day) && (decide (x.a=1) || decide (x.a=2) || decide (x.h.length=0))
def oK (v:Int) (xs:List Cs):Bool:=xs.any fun x=>x.h.contains v
def mkO (o:Off) (k id a v:Int):Option Off :=
 if k=2 then (if 0<=fT o.cs id then none else some { o with cs:=gM ⟨id,a,o.day + v,[]⟩ o.cs })
 else if a≠0 then none
 else if k=1 then (if id=0/\1<=v then some { o with day:=o.day + v } else none)
 else if k=4 then (if id=0/\oK v o.cs=true then some { o with cs:=o.cs.map (l9 v) } else none)
 else if 0<=fT o.cs id then
  (match o.cs[(fT o.cs id).toNat]? with
  | some x=>if k=3 then (if x.h.contains v=true then none else some { o with cs:=o.cs.set (fT o.cs id).toNat { x with h:=jS v x.h } })
   else if k=5 then (if 1<=v then some { o with cs:=o.cs.set (fT o.cs id).toNat { x with d:=x.d + v } } else none)
   else if k=6 then (if v=0/\cY o x=true then some (jM o (fT o.cs id).toNat x) else none)
   else none
  | none=>none)
 else none
def gW (o:Off) (k id a v:Int):Option Off:=if (cM o && bX v 0 20000)=true then (mkO o k id a v).filter cM else none
def kY (o:Off) (k id a v:Int):Bool :=
 if k=1 then decide (id=0) && decide (a=0) && decide (1<=v)
 else if k=2 then bX id 1 999 && decide (fT o.cs id < 0) && bX a 1 3 && decide (0<=v)
 else if k=3 then decide (0<=fT o.cs id) && decide (a=0) && bX v 1 9
 else if k=4 then decide (id=0) && decide (a=0) && bX v 1 9
 else if k=5 then decide (0<=fT o.cs id) && decide (a=0) && decide (1<=v)
 else decide (k=6) && decide (0<=fT o.cs id) && decide (a=0) && decide (v=0)
def gA (o:Off) (k id a v:Int):Option Off :=
 if k=1 then (if v > 20000 - o.day then none else some { o with day:=o.day + v })
 else if k=2 then (if v > 20000 - o.day then none else some { o with cs:=gM ⟨id,a,o.day + v,[]⟩ o.cs })
 else if k=4 then (if oK v o.cs=true then some { o with cs:=o.cs.map (l9 v) } else none)
 else match o.cs[(fT o.cs id).toNat]? with
  | some x=>if k=3 then (if x.h.contains v=true then none else some { o with cs:=o.cs.set (fT o.cs id).toNat { x with h:=jS v x.h } })
   else if k=5 then (if v > 20000 - x.d then none else some { o with cs:=o.cs.set (fT o.cs id).toNat { x with d:=x.d + v } })
   else if cY o x=true then some (jM o (fT o.cs id).toNat x) else none
  | none=>none
def sO (o:Off) (k id a v:Int):Option Off:=(gA o k id a v).filter cM
def aCY (o:Off) (k id a v:Int):Option Off:=if (cM o && kY o k id a v)=true then sO o k id a v else none
theorem dG {o:Off} (h:cM o=true):0<=o.day/\o.day<=20000/\o.cs.length<=6/\0<=o.kept/\o.kept<=999/\0<=o.moved/\o.moved<=999/\o.led.length<=8/\(∀ s∈o.led,s.length<=40)/\(∀ x∈o.cs,d7 x=true):=by
 have hc:∀ x∈o.cs,d7 x=true:=fun x hx=>by
  obtain ⟨i,hi⟩:=List.getElem?_of_mem hx
  exact tN h hi
 simp only [cM,mW,Bool.and_eq_true,bX,decide_eq_true_eq] at h
 obtain ⟨⟨⟨⟨⟨h1,h2⟩,h3⟩,h4⟩,h5⟩,_⟩:=h
 have hl:o.led.length<=8/\∀ s∈o.led,s.length<=40:=by
  simp only [wV,Bool.or_eq_true,Bool.not_eq_true',decide_eq_false_iff_not,d5,Bool.and_eq_true,bX,decide_eq_true_eq,List.all_eq_true,jB] at h5
  rcases h5 with h5|⟨h5,h6⟩
  ·have:o.led=[]:=List.length_eq_zero_iff.1 (by omega)
   rw [this]; simp
  ·exact ⟨by omega,fun s hs=>by have:=(h6 s hs).1; omega⟩
 exact ⟨h1.1,h1.2,by omega,h3.1,h3.2,h4.1,h4.2,hl.1,hl.2,hc⟩
theorem dX {x:Cs} (h:d7 x=true):1<=x.i/\x.i<=999/\1<=x.a/\x.a<=3/\0<=x.d/\x.d<=20000/\x.h.length<=5/\(∀ n∈x.h,1<=n/\n<=9)/\lH x.h=true:=by
 simp only [d7,Bool.and_eq_true,bX,decide_eq_true_eq,List.all_eq_true] at h
 obtain ⟨⟨⟨⟨h1,h2⟩,h3⟩,h4⟩,h5,h6⟩:=h
 exact ⟨h1.1,h1.2,h2.1,h2.2,h3.1,h3.2,by omega,h5,h6⟩
theorem uJ {o:Off} {x:Cs} (hx:x∈o.cs) (h:d7 x=false):cM o=false:=by
 cases hh:cM o with
 | false=>rfl
 | true =>
  have:=(dG hh).2.2.2.2.2.2.2.2.2 x hx
  rw [h] at this; cases this
theorem jA {o:Off} (h:cM o=true):o.ok0:=by
 obtain ⟨_,_,h3,_,_,_,_,h8,h9,h10⟩:=dG h
 refine ⟨⟨by omega,fun x hx=>?_⟩,by omega,fun s hs=>by have:=h9 s hs; omega⟩
 have:=(dX (h10 x hx)).2.2.2.2.2.2.1
 unfold Cs.ok0; omega
theorem aLM {o:Off} (h:o.day < 0\/20000 < o.day):cM o=false:=by
 cases hh:cM o with
 | false=>rfl
 | true =>
  have:=dG hh
  omega
theorem aLp (v:Int) (h:List Int):v∈jS v h:=by simp [jS]
theorem aGO (x:Cs) (xs:List Cs):x∈gM x xs:=by simp [gM]
theorem aFs {α:Type} {xs:List α} {i:Nat} {x y:α} (h:xs[i]?=some x):y∈xs.set i y:=by
 have:=bC h
 exact List.mem_of_getElem? (i:=i) (by rw [List.getElem?_set]; simp [this])
theorem mC {o:Off} (h:cM o=false):(some o).filter cM=none:=by
 simp [Option.filter,h]
theorem aAa {x:Cs} (h:x.d < 0\/20000 < x.d):d7 x=false:=by
 cases hh:d7 x with
 | false=>rfl
 | true=>have:=dX hh; omega
theorem aFf {x:Cs} (h:x.i < 1\/999 < x.i):d7 x=false:=by
 cases hh:d7 x with
 | false=>rfl
 | true=>have:=dX hh; omega
theorem aFk {x:Cs} (h:x.a < 1\/3 < x.a):d7 x=false:=by
 cases hh:d7 x with
 | false=>rfl
 | true=>have:=dX hh; omega
theorem aEx {x:Cs} {v:Int} (hv:v∈x.h) (h:v < 1\/9 < v):d7 x=false:=by
 cases hh:d7 x with
 | false=>rfl
 | true=>have:=(dX hh).2.2.2.2.2.2.2.1 v hv; omega
theorem aKk {o:Off} {v:Int} (h:cM o=true) (hv:v < 1\/9 < v):oK v o.cs=false:=by
 cases hh:oK v o.cs with
 | false=>rfl
 | true =>
  obtain ⟨x,hx,hc⟩:=List.any_eq_true.1 hh
  have:=(dX ((dG h).2.2.2.2.2.2.2.2.2 x hx)).2.2.2.2.2.2.2.1 v (List.contains_iff_mem.1 hc)
  omega
theorem jP {n a b:Int} (h1:a<=n) (h2:n<=b):bX n a b=true:=by simp [bX,h1,h2]
theorem aHL (o:Off) (k id a v:Int):aCY o k id a v=gW o k id a v:=by
 unfold aCY gW
 cases ho:cM o with
 | false=>simp
 | true =>
  have hp:=dG ho
  simp only [Bool.true_and]
  unfold sO gA mkO kY
  by_cases k1:k=1
  ·subst k1
   simp only [if_true,show ¬ (1:Int)=2 by decide,if_false]
   by_cases ha:a=0
   ·by_cases hi:id=0/\1<=v
    ·have e1:(decide (id=0) && decide (a=0) && decide (1<=v))=true:=by simp [hi.1,ha,hi.2]
     rw [if_pos e1,if_neg (show ¬ a≠0 from fun h=>h ha),if_pos hi]
     by_cases hv:v > 20000 - o.day
     ·rw [if_pos hv]
      split
      ·rw [mC (aLM (.inr (by simp only; omega)))]; rfl
      ·rfl
     ·rw [if_neg hv,if_pos (jP (by omega) (by omega))]
    ·have e1:¬ (decide (id=0) && decide (a=0) && decide (1<=v))=true:=by
      simp only [Bool.and_eq_true,decide_eq_true_eq]
      intro h; exact hi ⟨h.1.1,h.2⟩
     rw [if_neg e1,if_neg (show ¬ a≠0 from fun h=>h ha),if_neg hi]
     simp
   ·have e1:¬ (decide (id=0) && decide (a=0) && decide (1<=v))=true:=by simp [ha]
    rw [if_neg e1,if_pos ha]
    simp
  ·by_cases k2:k=2
   ·subst k2
    simp only [if_true,show ¬ (2:Int)=1 by decide,if_false]
    by_cases hf:0<=fT o.cs id
    ·rw [if_pos hf,if_neg (by simp only [Bool.and_eq_true,decide_eq_true_eq]; omega)]
     simp
    ·rw [if_neg hf]
     have hm:=aGO ⟨id,a,o.day + v,[]⟩ o.cs
     by_cases hs:(bX id 1 999 && decide (fT o.cs id < 0) && bX a 1 3 && decide (0<=v))=true
     ·rw [if_pos hs]
      simp only [Bool.and_eq_true,decide_eq_true_eq] at hs
      by_cases hv:v > 20000 - o.day
      ·rw [if_pos hv]
       split
       ·rw [mC (uJ hm (aAa (.inr (by simp only; omega))))]; rfl
       ·rfl
      ·rw [if_neg hv,if_pos (jP (by omega) (by omega))]
     ·rw [if_neg hs]
      split
      ·rename_i hw
       have hw:=jH.1 hw
       rw [mC]
       simp only [Bool.and_eq_true,decide_eq_true_eq,jH] at hs
       by_cases q1:1<=id/\id<=999
       ·exact uJ hm (aFk (by simp only; omega))
       ·exact uJ hm (aFf (by simp only; omega))
      ·rfl
   ·rw [if_neg k1,if_neg k1,if_neg k2,if_neg k2,if_neg k2,if_neg k1]
    by_cases ha:a=0
    case neg =>
     rw [if_pos ha,if_neg]
     ·simp
     ·split
      ·simp [ha]
      ·split
       ·simp [ha]
       ·split<;>simp [ha]
    rw [if_neg (show ¬ a≠0 from fun h=>h ha)]
    by_cases k4:k=4
    ·subst k4
     simp only [if_true,show ¬ (4:Int)=3 by decide,if_false]
     by_cases hi:id=0
     ·by_cases hv:1<=v/\v<=9
      ·have e1:(decide (id=0) && decide (a=0) && bX v 1 9)=true:=by
        simp only [Bool.and_eq_true,decide_eq_true_eq,jH]; exact ⟨⟨hi,ha⟩,hv⟩
       rw [if_pos e1,if_pos (jP (by omega) (by omega))]
       cases hh:oK v o.cs with
       | true=>rw [if_pos rfl,if_pos ⟨hi,rfl⟩]
       | false=>rw [if_neg (by decide),if_neg (show ¬ (id=0/\false=true) from fun h=>by cases h.2)]
      ·have e1:¬ (decide (id=0) && decide (a=0) && bX v 1 9)=true:=by
        simp only [Bool.and_eq_true,decide_eq_true_eq,jH]; exact fun h=>hv h.2
       rw [if_neg e1,aKk ho (by omega),if_neg (show ¬ (id=0/\false=true) from fun h=>by cases h.2)]
       simp
     ·have e1:¬ (decide (id=0) && decide (a=0) && bX v 1 9)=true:=by simp [hi]
      rw [if_neg e1,if_neg (show ¬ (id=0/\oK v o.cs=true) from fun h=>hi h.1)]
      simp
    ·rw [if_neg k4,if_neg k4,if_neg k4]
     by_cases hf:0<=fT o.cs id
     case neg =>
      rw [if_neg hf,if_neg]
      ·simp
      ·split
       ·simp [hf]
       ·split<;>simp [hf]
     rw [if_pos hf]
     rcases kT o.cs id with ⟨_,hn⟩|⟨i,x,hi,hr,_⟩
     ·exact absurd hf (of_decide_eq_false hn)
     have hxc:=dX (hp.2.2.2.2.2.2.2.2.2 x (List.mem_of_getElem? hr))
     rw [hi,Int.toNat_natCast,hr]
     simp only
     have hi0:(0:Int)<=(i:Int):=by omega
     by_cases k3:k=3
     ·subst k3
      simp only [if_true]
      by_cases hv:1<=v/\v<=9
      ·have e1:(decide (0<=(i:Int)) && decide (a=0) && bX v 1 9)=true:=by
        simp only [Bool.and_eq_true,decide_eq_true_eq,jH]; exact ⟨⟨hi0,ha⟩,hv⟩
       rw [if_pos e1,if_pos (jP (by omega) (by omega))]
      ·have e1:¬ (decide (0<=(i:Int)) && decide (a=0) && bX v 1 9)=true:=by
        simp only [Bool.and_eq_true,decide_eq_true_eq,jH]; exact fun h=>hv h.2
       rw [if_neg e1]
       split
       ·split
        ·rfl
        ·rw [mC (uJ (x:={ x with h:=jS v x.h }) (aFs hr) (aEx (aLp v x.h) (by omega)))]
       ·rfl
     ·rw [if_neg k3,if_neg k3,if_neg k3]
      by_cases k5:k=5
      ·subst k5
       simp only [if_true]
       by_cases hv:1<=v
       ·have e1:(decide (0<=(i:Int)) && decide (a=0) && decide (1<=v))=true:=by
         simp only [Bool.and_eq_true,decide_eq_true_eq]; exact ⟨⟨hi0,ha⟩,hv⟩
        rw [if_pos e1,if_pos hv]
        by_cases hv2:v > 20000 - x.d
        ·rw [if_pos hv2]
         split
         ·rw [mC (uJ (x:={ x with d:=x.d + v }) (aFs hr) (aAa (.inr (by simp only; omega))))]; rfl
         ·rfl
        ·rw [if_neg hv2,if_pos (jP (by omega) (by omega))]
       ·have e1:¬ (decide (0<=(i:Int)) && decide (a=0) && decide (1<=v))=true:=by
         simp only [Bool.and_eq_true,decide_eq_true_eq]; exact fun h=>hv h.2
        rw [if_neg e1,if_neg hv]
        simp
      ·rw [if_neg k5,if_neg k5,if_neg k5]
       by_cases k6:k=6
       ·rw [if_pos k6]
        by_cases hv:v=0
        ·have e1:(decide (k=6) && decide (0<=(i:Int)) && decide (a=0) && decide (v=0))=true:=by
          simp only [Bool.and_eq_true,decide_eq_true_eq]; exact ⟨⟨⟨k6,hi0⟩,ha⟩,hv⟩
         rw [if_pos e1,if_pos (jP (by omega) (by omega))]
         cases hd:cY o x with
         | true=>rw [if_pos rfl,if_pos ⟨hv,rfl⟩]
         | false=>rw [if_neg (by decide),if_neg (show ¬ (v=0/\false=true) from fun h=>by cases h.2)]
        ·have e1:¬ (decide (k=6) && decide (0<=(i:Int)) && decide (a=0) && decide (v=0))=true:=by
          simp only [Bool.and_eq_true,decide_eq_true_eq]; exact fun h=>hv h.2
         rw [if_neg e1,if_neg (show ¬ (v=0/\cY o x=true) from fun h=>hv h.1)]
         simp
       ·have e1:¬ (decide (k=6) && decide (0<=(i:Int)) && decide (a=0) && decide (v=0))=true:=by
         simp only [Bool.and_eq_true,decide_eq_true_eq]; exact fun h=>k6 h.1.1.1
        rw [if_neg e1,if_neg k6]
        simp
end Go.Pe.Tryz
set_option maxRecDepth 100000
set_option maxHeartbeats 4000000
set_option linter.all false
namespace Go.Pe.Tryz
open Nat (reduceEqDiff reduceAdd reduceSub reduceLT)
open Go.Proofs.Tryz Go.Sort
structure Digs (k:Int) (p:Int×List UInt8):Prop where
 lo:0<=p.1
 hi:p.1<=k
 len:p.2.length<=21
 eq:Lib.decDigits k.toNat=if p.1=0 then p.2 else Lib.decDigits p.1.toNat ++ p.2
theorem Digs.next {k:Int} {p:Int×List UInt8} (hk:k<=100000000000000) (h:Digs k p) (hp:0 < p.1):Digs k (p.1 / 10,UInt8.ofNat (48 + (p.1 % 10).toNat) :: p.2):=by
 obtain ⟨n,s⟩:=p
 have h0:(0:Int) < n:=hp
 obtain ⟨m,rfl⟩:=Int.eq_ofNat_of_zero_le (show (0:Int)<=n by omega)
 have he:=h.eq
 have hh:=h.hi
 simp only at he hh ⊢
 rw [if_neg (by omega),Int.toNat_natCast] at he
 have hmd:((m:Int) % 10).toNat=m % 10:=by omega
 have hdv:((m:Int) / 10).toNat=m / 10:=by omega
 have key:Lib.decDigits k.toNat=if (m:Int) / 10=0 then UInt8.ofNat (48 + m % 10) :: s else Lib.decDigits (m / 10) ++ UInt8.ofNat (48 + m % 10) :: s:=by
  rw [he]
  by_cases h10:m < 10
  ·rw [qE h10,if_pos (by omega),show m % 10=m by omega]; rfl
  ·rw [qT h10,if_neg (by omega)]; simp
 have hl:=vE k.toNat (by omega)
 refine ⟨by show (0:Int)<=(m:Int) / 10; omega,by show (m:Int) / 10<=k; omega,?_,by simp only [hmd,hdv]; exact key⟩
 rw [key] at hl
 simp only [hmd]
 split at hl
 ·exact hl
 ·rw [List.length_append] at hl; omega
theorem Digs.done {k:Int} {p:Int×List UInt8} (h:Digs k p) (hp:¬ 0 < p.1):Lib.decDigits k.toNat=p.2:=by
 have:=h.lo
 rw [h.eq,if_pos (by omega)]
end Go.Pe.Tryz
set_option maxRecDepth 100000
set_option maxHeartbeats 4000000
set_option linter.all false
namespace Go.Pe.Tryz
open Nat (reduceEqDiff reduceAdd reduceSub reduceLT)
open Go.Proofs.Tryz
theorem kG {x:Cs} {dh:D} {k:Int}:j6 [2] (x.p dh) (.int .i64 k)=Cs.p { x with d:=k } dh:=rfl
theorem dO {x:Cs} {dh u:D}:j6 [3] (x.p dh) u=x.p u:=rfl
theorem r6 {x:Cs} {dh:D}:eV [0] (x.p dh)=0:=rfl
theorem kK {x:Cs} {dh:D}:eV [2] (x.p dh)=2:=rfl
theorem eY {x:Cs} {dh:D}:eV [3] (x.p dh)=3:=rfl
theorem rZ {x:Cs} {dh:D}:iS [0] (x.p dh)=some (.int .i64 x.i):=rfl
theorem kJ {x:Cs} {dh:D}:iS [2] (x.p dh)=some (.int .i64 x.d):=rfl
theorem dR {x:Cs} {dh:D}:iS [3] (x.p dh)=some dh:=rfl
theorem aA1 {xs:List Cs} {i:Nat} {x:Cs} (hr:xs[i]?=some x):xs.drop i=x :: xs.drop (i + 1):=by
 have hi:=bC hr
 rw [List.drop_eq_getElem_cons hi]
 rw [List.getElem?_eq_getElem hi] at hr
 injection hr with hr
 rw [hr]
end Go.Pe.Tryz
set_option maxRecDepth 100000
set_option maxHeartbeats 4000000
set_option linter.all false
namespace Go.Pe.Tryz
open Nat (reduceEqDiff reduceAdd reduceSub reduceLT)
open Go.Proofs.Tryz
theorem aGs (xs:List Cs) (hlen:xs.length<=1048576):Fn prog 68 [.sl false 4 (dl Cs.s xs)] (fun rs=>rs=[.sl true 4 (dl Cs.s xs)]):=by
 refine bV (fn:=f68) (by exact func68) c68 r68 (n:=8) (by rfl) (rv:=[.tmp 2]) (by rfl) (by simp) ?_
 unfold m68
 try simp only [wQ]
 simp only [↓wA,↓wC,wB,aY,aW,reduceEqDiff,reduceAdd,reduceSub,reduceIte,reduceCtorEq,Nat.reduceBEq,reduceLT,bU]
 refine aFd (fun h=>?_) ?_
 ·rw [a7] at h
  have e:xs=[]:=List.length_eq_zero_iff.1 h
  subst e
  simp only [↓wA,↓wC,wB,aY,aW,reduceEqDiff,reduceAdd,reduceSub,reduceIte,reduceCtorEq,Nat.reduceBEq,reduceLT,bU]
  refine mX 4 ?_
  rfl
 ·simp only [a7,↓wA,↓wC,wB,aY,aW,reduceEqDiff,reduceAdd,reduceSub,reduceIte,reduceCtorEq,Nat.reduceBEq,reduceLT,bU]
  refine bK ⟨by omega,by omega⟩ ?_
  simp only [↓wA,↓wC,wB,aY,aW,reduceEqDiff,reduceAdd,reduceSub,reduceIte,reduceCtorEq,Nat.reduceBEq,reduceLT,bU]
theorem aGc (L:List (List UInt8)) (hlen:L.length<=1048576):Fn prog 70 [.sl false 1 (dl D.str L)] (fun rs=>rs=[.sl true 1 (dl D.str L)]):=by
 refine bV (fn:=f70) (by exact func70) c70 r70 (n:=8) (by rfl) (rv:=[.tmp 2]) (by rfl) (by simp) ?_
 unfold m70
 try simp only [wQ]
 simp only [↓wA,↓wC,wB,aY,aW,reduceEqDiff,reduceAdd,reduceSub,reduceIte,reduceCtorEq,Nat.reduceBEq,reduceLT,bU]
 refine aFd (fun h=>?_) ?_
 ·rw [a7] at h
  have e:L=[]:=List.length_eq_zero_iff.1 h
  subst e
  simp only [↓wA,↓wC,wB,aY,aW,reduceEqDiff,reduceAdd,reduceSub,reduceIte,reduceCtorEq,Nat.reduceBEq,reduceLT,bU]
  refine mX 1 ?_
  rfl
 ·simp only [a7,↓wA,↓wC,wB,aY,aW,reduceEqDiff,reduceAdd,reduceSub,reduceIte,reduceCtorEq,Nat.reduceBEq,reduceLT,bU]
  refine bK ⟨by omega,by omega⟩ ?_
  simp only [↓wA,↓wC,wB,aY,aW,reduceEqDiff,reduceAdd,reduceSub,reduceIte,reduceCtorEq,Nat.reduceBEq,reduceLT,bU]
def cm (p:Bool×Cs):D:=if p.1 then p.2.o else p.2.s
def u9 (xs:List Cs) (i:Nat):List (Bool×Cs):=(xs.take i).map (fun x=>(true,x)) ++ (xs.drop i).map (fun x=>(false,x))
theorem aHn (xs:List Cs) (i:Nat):(u9 xs i).length=xs.length:=by simp [u9]; omega
theorem aH4 {xs:List Cs} {i:Nat} {x:Cs} (hr:xs[i]?=some x):(u9 xs i)[i]?=some (false,x):=by
 have hi:=bC hr
 rw [u9,List.getElem?_append_right (by simp; omega),List.length_map,List.length_take,Nat.min_eq_left (by omega),Nat.sub_self,List.getElem?_map,List.getElem?_drop]
 simp [hr]
theorem aIb {xs:List Cs} {i:Nat} {x:Cs} (hr:xs[i]?=some x):(u9 xs i).set i (true,x)=u9 xs (i + 1):=by
 have hi:=bC hr
 rw [u9,List.set_append_right _ _ (by simp; omega),List.length_map,List.length_take,Nat.min_eq_left (by omega),Nat.sub_self,aA1 hr,List.map_cons,List.set_cons_zero,u9,fF hr]
 simp
theorem aMJ (xs:List Cs):dl cm (u9 xs 0)=dl Cs.s xs:=by
 simp only [u9,List.take_zero,List.map_nil,List.nil_append,List.drop_zero,dl,List.map_map]
 rfl
theorem aMG (xs:List Cs):dl cm (u9 xs xs.length)=dl Cs.o xs:=by
 simp only [u9,List.take_length,List.drop_length,List.map_nil,List.append_nil,dl,List.map_map]
 rfl
theorem aAL (o:Off) (ho:o.ok0):Fn prog 38 [o.s] (fun rs=>rs=[o.o]):=by
 have hC:=aGs o.cs ho.1.1
 have hT:=aGc o.led ho.2.1
 have hlen:=ho.1.1
 refine fK (ps:=[[1,1,0,0],[1,1,1,0]]) (fn:=f38) (by exact func38) c38 r38 (n:=32) (by rfl) (rv:=[.cell 2 27]) (by rfl) (by simp) ?_
 unfold m38
 try simp only [wQ]
 simp only [dP,eR]
 simp only [Off.s,cG]
 repeat' (first|(simp only [bB,bE,aV,↓wA,↓wC,wB,aY,aW,reduceEqDiff,reduceAdd,reduceSub,reduceIte,reduceCtorEq,Nat.reduceBEq,reduceLT,bU])|(refine aZ hC rfl rfl ?_)|((first|apply aO|apply aQ|apply aK)<;>intro h<;>try simp only [h]))
 refine dQ _ (eA 0 none [1] (es:=4) (xs:=dl Cs.s o.cs) rfl rfl) fun v1=>?_
 simp only [cX,bB,bE,aV,a7,↓wA,↓wC,wB,aY,aW,reduceEqDiff,reduceAdd,reduceSub,reduceIte,reduceCtorEq,Nat.reduceBEq,reduceLT,bU]
 refine cP o.cs.length (fun i:Nat=>⟨[(1,.ptr 0 0 []),(2,.ptr 1 0 []),(10,.d (.int .i64 o.cs.length)),(11,.d (.int .i64 i))],[.box (cG o (.lnk 4 v1) (.sl false 1 (dl D.str o.led))),.box (.st (.cons (.int .i64 0) (.cons (.sl true 4 .nil) (.cons (.int .i64 0) (.cons (.int .i64 0) (.cons (.sl true 1 .nil) .nil)))))),.dead,.val (.sl true 4 (dl cm (u9 o.cs i))),.tag 3 v1]⟩) (fun _=>True) ?_ trivial ?_ ?_
 ·rw [aMJ]; exact (bF _ rfl ⟨⟨rfl,rfl⟩,⟨rfl,rfl⟩,⟨rfl,rfl⟩,⟨rfl,rfl⟩,trivial⟩)
 ·intro i hlt _ hd h0
  obtain ⟨x,hr⟩:=cK hlt
  have h1:=aGU x.h (ho.1.2 x (List.mem_of_getElem? hr))
  have hg:=aH4 hr
  have hcm:cm (false,x)=x.p (.sl false 1 (dl iD x.h)):=rfl
  have hgs:∀ (y:D),((dl cm (u9 o.cs i)).setN i y).nth i=some y:=fun y=>by rw [m9,if_pos rfl,bW,hg]; rfl
  simp only [cG]
  repeat' (first|(simp only [a7,aHn,hd,h0,bW,Int.toNat_natCast,hg,hcm,hgs,dV,Option.map_some,aV,bJ,eY,dR,dO,↓wA,↓wC,wB,aY,aW,reduceEqDiff,reduceAdd,reduceSub,reduceIte,reduceCtorEq,Nat.reduceBEq,reduceLT,bU])|(refine cT ?_)|(refine aZ h1 rfl rfl ?_)|(refine bA (by simp only [cV]; omega) ?_)|((first|apply aO|apply aQ|apply aK)<;>intro h<;>try simp only [h]))
  have e:x.p (.sl true 1 (dl iD x.h))=cm (true,x):=rfl
  rw [e,i8,aIb hr]
  exact ⟨i + 1,(bF _ rfl ⟨⟨rfl,rfl⟩,⟨rfl,rfl⟩,⟨rfl,rfl⟩,⟨rfl,rfl⟩,trivial⟩),by omega,by omega⟩
 ·intro _ hd
  rw [aMG]
  simp only [cG]
  repeat' (first|(simp only [a7,hd,aV,↓wA,↓wC,wB,aY,aW,reduceEqDiff,reduceAdd,reduceSub,reduceIte,reduceCtorEq,Nat.reduceBEq,reduceLT,bU])|((first|apply aO|apply aQ|apply aK)<;>intro h<;>try simp only [h]))
  refine bR (jQ 0 4 3 none [1] rfl rfl rfl rfl (by decide) rfl) ?_
  simp only [cX,↓wA,↓wC,wB,aY,aW,reduceEqDiff,reduceAdd,reduceSub,reduceIte,reduceCtorEq,Nat.reduceBEq,reduceLT,bU]
  repeat' (first|(simp only [bE,aV,↓wA,↓wC,wB,aY,aW,reduceEqDiff,reduceAdd,reduceSub,reduceIte,reduceCtorEq,Nat.reduceBEq,reduceLT,bU])|(refine aZ hT rfl rfl ?_)|((first|apply aO|apply aQ|apply aK)<;>intro h<;>try simp only [h]))
  all_goals exact bK rfl rfl
end Go.Pe.Tryz
set_option maxRecDepth 100000
set_option maxHeartbeats 4000000
set_option linter.all false
namespace Go.Pe.Tryz
open Nat (reduceEqDiff reduceAdd reduceSub reduceLT)
open Go.Proofs.Tryz
theorem aFC {v:List Int} (h:lH v=true):aBq v:=fun j a b ha hb=>by
 have:=(mT v).1 h j (bC hb)
 rw [List.getD_eq_getElem?_getD,List.getD_eq_getElem?_getD,ha,hb] at this
 simpa using this
theorem aDu {v:List Int} (h:aBq v):v.Nodup:=by
 rw [List.Nodup,List.pairwise_iff_getElem]
 intro i j hi hj hij
 have:=xZ h j i v[i] v[j] hij (List.getElem?_eq_getElem hi) (List.getElem?_eq_getElem hj)
 omega
theorem zN {v:Int}:∀ (h:List Int) (k:Nat),h.Nodup->h[k]?=some v->h.take k ++ h.drop (k + 1)=h.filter (fun n=>!decide (n=v))
 | [],k,_,hk=>by simp at hk
 | a :: t,0,hn,hk=>by
  simp only [List.getElem?_cons_zero,Option.some.injEq] at hk
  subst hk
  obtain ⟨h1,h2⟩:=List.nodup_cons.1 hn
  have:t.filter (fun n=>!decide (n=a))=t:=by
   rw [List.filter_eq_self]
   intro x hx
   have:x≠a:=fun e=>h1 (e ▸ hx)
   simp [this]
  simp [this]
 | a :: t,k + 1,hn,hk=>by
  obtain ⟨h1,h2⟩:=List.nodup_cons.1 hn
  simp only [List.getElem?_cons_succ] at hk
  have ha:a≠v:=fun e=>h1 (e ▸ List.mem_of_getElem? hk)
  have ih:=zN t k h2 hk
  simp only [List.take_succ_cons,List.drop_succ_cons,List.cons_append,ih]
  simp [ha]
theorem aOd {v:Int} {h:List Int} (hn:h.contains v=false):h.filter (fun n=>!decide (n=v))=h:=by
 rw [List.filter_eq_self]
 intro x hx
 have:x≠v:=fun e=>by
  subst e
  rw [List.contains_iff_mem.2 hx] at hn
  cases hn
 simp [this]
theorem aJ6 {v:Int} {h:List Int}:decide (0<=jL (fun x=>decide (v=x)) h)=h.contains v:=by
 rw [sG,mG]
def pL (v:Int) (xs:List Cs) (i:Nat):List Cs:=(xs.take i).map (l9 v) ++ xs.drop i
theorem k9 (v:Int) (xs:List Cs) (i:Nat):(pL v xs i).length=xs.length:=by simp [pL]; omega
theorem aCP {v:Int} {xs:List Cs} {i:Nat} {x:Cs} (hr:xs[i]?=some x):(pL v xs i)[i]?=some x:=by
 have hi:=bC hr
 rw [pL,List.getElem?_append_right (by simp; omega),List.length_map,List.length_take,Nat.min_eq_left (by omega),Nat.sub_self,List.getElem?_drop]
 simpa using hr
theorem yA {v:Int} {xs:List Cs} {i:Nat} {x:Cs} (hr:xs[i]?=some x):(pL v xs i).set i (l9 v x)=pL v xs (i + 1):=by
 have hi:=bC hr
 rw [pL,List.set_append_right _ _ (by simp; omega),List.length_map,List.length_take,Nat.min_eq_left (by omega),Nat.sub_self,aA1 hr,List.set_cons_zero,pL,fF hr]
 simp
theorem aA7 {v:Int} {xs:List Cs} {i:Nat} {x:Cs} (hr:xs[i]?=some x):oK v (xs.take (i + 1))=(oK v (xs.take i) || x.h.contains v):=by
 rw [fF hr]
 simp [oK]
theorem aE7 (o:Off) (v:Int) (ho:o.ok0) (hn:∀ x∈o.cs,x.h.Nodup):wP prog 72 true o.o [.int .i64 v] (fun x' rs=>x'=Off.o { o with cs:=o.cs.map (l9 v) }/\rs=[.bool (oK v o.cs)]):=by
 have hlen:=ho.1.1
 refine mP (ps:=[[1,1,0,1,0,0,1,1,0,0,1,0],[1,1,0,1,0,0,1,1,1],[1,1,0,0],[1,1,1,0]]) (fn:=f72) (by exact func72) c72 r72 (n:=49) (by rfl) (rv:=[.tmp 4]) (by rfl) (by decide) (by simp) ?_
 unfold m72
 try simp only [wQ]
 simp only [dP,eR]
 simp only [Off.o,cG]
 repeat' (first|(simp only [aV,↓wA,↓wC,wB,aY,aW,reduceEqDiff,reduceAdd,reduceSub,reduceIte,reduceCtorEq,Nat.reduceBEq,reduceLT])|((first|apply aO|apply aQ|apply aK)<;>intro h<;>try simp only [h]))
 refine dQ _ (eA 0 none [1] (es:=4) (xs:=dl Cs.o o.cs) rfl rfl) fun v1=>?_
 simp only [cX,aV,a7,↓wA,↓wC,wB,aY,aW,reduceEqDiff,reduceAdd,reduceSub,reduceIte,reduceCtorEq,Nat.reduceBEq,reduceLT]
 refine cP o.cs.length (fun i:Nat=>⟨[(0,.ptr 0 0 []),(1,.d (.int .i64 v)),(5,.d (.bool (oK v (o.cs.take i)))),(12,.d (.int .i64 o.cs.length)),(13,.d (.int .i64 i))],[.box (cG o (.lnk 2 v1) (.sl true 1 (dl D.str o.led))),.val (.sl true 4 (dl Cs.o (pL v o.cs i))),.tag 1 v1]⟩) (fun _=>True) ?_ trivial ?_ ?_
 ·exact (bF _ rfl ⟨⟨rfl,rfl⟩,⟨rfl,rfl⟩,⟨rfl,rfl⟩,⟨rfl,rfl⟩,⟨rfl,rfl⟩,trivial⟩)
 ·intro i hlt _ hd h0
  obtain ⟨x,hr⟩:=cK hlt
  have hg:=aCP (v:=v) hr
  have hxo:=ho.1.2 x (List.mem_of_getElem? hr)
  have hI:=aBv x.h v hxo
  have hI':Fn prog 90 [.sl false 1 (dl iD x.h).unown,.int .i64 v] (fun rs=>rs=[.int .i64 (jL (fun x=>decide (v=x)) x.h)]):=by rw [c9]; exact hI
  have hcm:Cs.o x=x.p (.sl true 1 (dl iD x.h)):=rfl
  have hgs:∀ (y:D),((dl Cs.o (pL v o.cs i)).setN i y).nth i=some y:=fun y=>by rw [m9,if_pos rfl,bW,hg]; rfl
  have hgn:(dl Cs.o (pL v o.cs i)).nth i=some (x.p (.sl true 1 (dl iD x.h))):=by rw [bW,hg]; rfl
  have hx:=aA7 (v:=v) hr
  have hix:=aJ6 (v:=v) (h:=x.h)
  simp only [cG]
  repeat' (first|(simp only [a7,k9,hd,h0,aV,↓wA,↓wC,wB,aY,aW,reduceEqDiff,reduceAdd,reduceSub,reduceIte,reduceCtorEq,Nat.reduceBEq,reduceLT])|((first|apply aO|apply aQ|apply aK)<;>intro h<;>try simp only [h]))
  refine dQ _ (eA 1 (some i) [3] (es:=1) (xs:=dl iD x.h) rfl (by simp only [iY,hgn,Option.bind_some,dR])) fun v2=>?_
  simp only [cX,hgn,Option.getD_some,dO,↓wA,↓wC,wB,aY,aW,reduceEqDiff,reduceAdd,reduceSub,reduceIte,reduceCtorEq,Nat.reduceBEq,reduceLT]
  by_cases hge:0<=jL (fun x=>decide (v=x)) x.h
  ·obtain ⟨k,r,hk,hkr,hkp⟩:=aDx hge
   have hrv:v=r:=of_decide_eq_true hkp
   subst hrv
   rw [hk] at hI' hix
   have hc:x.h.contains v=true:=by rw [<- hix]; exact decide_eq_true (by omega)
   rw [hc] at hix hx
   have hD:=aEy x.h k (k + 1) (by omega) (by have:=bC hkr; omega)
   rw [show ((k + 1:Nat):Int)=(k:Int) + 1 by omega] at hD
   have hkl:k<=1048576:=by
    have:=bC hkr
    unfold Cs.ok0 at hxo
    omega
   have hdf:=zN x.h k (hn x (List.mem_of_getElem? hr)) hkr
   repeat' (first|(simp only [a7,k9,hd,h0,hix,hgn,hgs,dV,Int.toNat_natCast,Option.map_some,aV,eY,dR,dO,↓wA,↓wC,wB,aY,aW,reduceEqDiff,reduceAdd,reduceSub,reduceIte,reduceCtorEq,Nat.reduceBEq,reduceLT])|(refine aZ (hI') rfl rfl ?_)|(refine a6 (hI') rfl rfl ?_)|(refine cT ?_)|(with_reducible refine bA ?_ ?_; focus (simp only [cV]; omega))|((first|apply aO|apply aQ|apply aK)<;>intro h<;>try simp only [h]))
   refine dF (bx:=false) (r:=3) hD rfl rfl rfl ?_
   rintro _ _ ⟨⟨u,rfl⟩,rfl⟩
   repeat' (first|(simp only [a7,k9,hd,h0,hix,hgn,hgs,dV,Int.toNat_natCast,Option.map_some,aV,eY,dR,dO,↓wA,↓wC,wB,aY,aW,reduceEqDiff,reduceAdd,reduceSub,reduceIte,reduceCtorEq,Nat.reduceBEq,reduceLT])|(with_reducible refine bA ?_ ?_; focus (simp only [cV]; omega))|((first|apply aO|apply aQ|apply aK)<;>intro h<;>try simp only [h]))
   refine bR (eN.refl _) ?_
   repeat' (first|(simp only [aV,↓wA,↓wC,wB,aY,aW,reduceEqDiff,reduceAdd,reduceSub,reduceIte,reduceCtorEq,Nat.reduceBEq,reduceLT])|(with_reducible refine bA ?_ ?_; focus (simp only [cV]; omega))|((first|apply aO|apply aQ|apply aK)<;>intro h<;>try simp only [h]))
   have e:x.p (.sl true 1 (dl iD (x.h.take k ++ x.h.drop (k + 1))))=Cs.o (l9 v x):=by rw [hdf]; rfl
   rw [e,i8,yA hr]
   refine ⟨i + 1,?_,by omega,by omega⟩
   rw [hx,Bool.or_true]
   exact (bF _ rfl ⟨⟨rfl,rfl⟩,⟨rfl,rfl⟩,⟨rfl,rfl⟩,⟨rfl,rfl⟩,⟨rfl,rfl⟩,trivial⟩)
  ·have hm:=aJq hge
   rw [hm] at hI' hix
   have hc:x.h.contains v=false:=by rw [<- hix]; rfl
   rw [hc] at hix hx
   have hrx:l9 v x=x:=by
    show ({ x with h:=_ }:Cs)=x
    rw [aOd hc]
   repeat' (first|(simp only [a7,k9,hd,h0,hix,hgn,hgs,dV,Int.toNat_natCast,Option.map_some,aV,eY,dR,dO,↓wA,↓wC,wB,aY,aW,reduceEqDiff,reduceAdd,reduceSub,reduceIte,reduceCtorEq,Nat.reduceBEq,reduceLT])|(refine aZ (hI') rfl rfl ?_)|(refine a6 (hI') rfl rfl ?_)|(with_reducible refine bA ?_ ?_; focus (simp only [cV]; omega))|((first|apply aO|apply aQ|apply aK)<;>intro h<;>try simp only [h]))
   refine bR (jQ 1 4 3 (some i) [3] rfl (by simp only [iY,hgs,Option.bind_some,dR]) rfl rfl (by decide) rfl) ?_
   simp only [cX,hgs,Option.getD_some,dO,dV,↓wA,↓wC,wB,aY,aW,reduceEqDiff,reduceAdd,reduceSub,reduceIte,reduceCtorEq,Nat.reduceBEq,reduceLT]
   repeat' (first|(simp only [aV,↓wA,↓wC,wB,aY,aW,reduceEqDiff,reduceAdd,reduceSub,reduceIte,reduceCtorEq,Nat.reduceBEq,reduceLT])|(with_reducible refine bA ?_ ?_; focus (simp only [cV]; omega))|((first|apply aO|apply aQ|apply aK)<;>intro h<;>try simp only [h]))
   have e:x.p (.sl true 1 (dl iD x.h))=Cs.o (l9 v x):=by rw [hrx]; rfl
   rw [e,i8,yA hr]
   refine ⟨i + 1,?_,by omega,by omega⟩
   rw [hx,Bool.or_false]
   exact (bF _ rfl ⟨⟨rfl,rfl⟩,⟨rfl,rfl⟩,⟨rfl,rfl⟩,⟨rfl,rfl⟩,⟨rfl,rfl⟩,trivial⟩)
 ·intro _ hd
  have er:pL v o.cs o.cs.length=o.cs.map (l9 v):=by simp [pL]
  rw [er,List.take_length]
  simp only [cG]
  repeat' (first|(simp only [a7,hd,aV,↓wA,↓wC,wB,aY,aW,reduceEqDiff,reduceAdd,reduceSub,reduceIte,reduceCtorEq,Nat.reduceBEq,reduceLT])|((first|apply aO|apply aQ|apply aK)<;>intro h<;>try simp only [h]))
  refine bR (jQ 0 2 1 none [1] rfl rfl rfl rfl (by decide) rfl) ?_
  simp only [cX,↓wA,↓wC,wB,aY,aW,reduceEqDiff,reduceAdd,reduceSub,reduceIte,reduceCtorEq,Nat.reduceBEq,reduceLT]
  repeat' (first|(simp only [aV,↓wA,↓wC,wB,aY,aW,reduceEqDiff,reduceAdd,reduceSub,reduceIte,reduceCtorEq,Nat.reduceBEq,reduceLT])|((first|apply aO|apply aQ|apply aK)<;>intro h<;>try simp only [h]))
  all_goals exact ⟨rfl,rfl⟩
end Go.Pe.Tryz
