/- slices.Insert at cases: walked over raw memory; its contract; slices.Insert at cases where there is room; its contract; Numbers as decimal text: the library's, and the reference's own road to it; Texts of cases (strings.Join, decimals, caseText, l25Text), walked; A case of an office by its number, its text, walked; the law of CaseText; Steps of an office, as plain lists: the program's road and the reference's agree; Marks as text: on lists of texts, walked; Marks on offices, walked; Steps of an office: copies, walked; Steps of an office: a hold is released; walked; Steps of an office: a case is dealt with; walked; Steps of an office: a step with a case; walked; Steps of an office: a step; walked; Steps of an office: the program's StepOffice; walked; Runs of steps of an office: the program's RunOffice; walked -/
import Derived.Test.YtmkmjcgkcpmmpaaGreatDoorW1
import Derived.Lib.AppendZerosOnto
import Derived.Lib.Overlaps
import Derived.Laws.IdiomCopy
import Derived.Laws.NewBlocks
import Derived.OwnWalk
import Derived.Test.YtmkmjcgkcpmmpaaGreatDoorPeD
import Derived.Test.YtmkmjcgkcpmmpaaGreatDoorMc1
import Derived.Test.YtmkmjcgkcpmmpaaGreatDoorMc2
import Derived.Test.YtmkmjcgkcpmmpaaGreatDoorMc3
import Derived.Test.YtmkmjcgkcpmmpaaGreatDoorMc4
import Derived.Test.YtmkmjcgkcpmmpaaGreatDoorMc5
import Derived.Test.YtmkmjcgkcpmmpaaGreatDoorShelf
import Derived.Lib.ItoaLen
set_option maxRecDepth 100000
set_option maxHeartbeats 4000000
set_option linter.all false
namespace Go.Pe.Tryz
open Nat (reduceEqDiff reduceAdd reduceSub reduceLT)
open Go Go.RowKit Go.Shelf Go.Lib Go.Proofs.Tryz
theorem j6 {P:Program} {w:World} {t ty e E:TypeId} {i:TypeInfo} (ht:P.underlying t=some (.slice e)) (hi:P.info? e=some i) {g off dn dc:Nat} {cur:Array Value} (hg:dY w g cur E)
  (a:Addr) (sn sc:Nat) (news:List Value) (hl:news.length=Nat.min sn dn * i.size) (hnews:∀ j u,news[j]?=some u->w.cell? (a.add j)=some u) (h1:∀ u∈news,u.oneCell'=true) (hfit:off + news.length<=cur.size) :
  (Builtin.copy_ #[t,t] ty #[.slice (some ⟨g,off,none⟩) dn dc,.slice (some a) sn sc]).run P w=.ok (goInt (Nat.min sn dn)) (w.setRow g (cur.toList.take off ++ news ++ cur.toList.drop (off + news.length)).toArray):=by
 have hf:=run_firstCells_some (P:=P) w i.size (Nat.min sn dn) a sn sc news hl hnews
 have hst:=eE P g off E news 0 cur w hg (by simpa using hfit) h1
 simp only [Nat.add_zero] at hst
 simp [Builtin.copy_,run_underlying ht,sizeOf,typeInfo,hi,Builtin.lenOf,hf,hst]
theorem pH {P:Program} {ops:Array Oper} {o:Oper} {a:Act} {w:World} {K:Act->World->Prop} {Q:Exit->Act->World->Prop} {E:Prop}
  (hg:o.guard=none) (d x:Operand) (dT sT:TypeId) (hop:o.op=Op.call { callee:=Callee.builtin Builtin.copy,args:=#[d,x],argTypes:=#[dT,sT] })
  (v u:Value) (hd:a.eval d=v) (hx:a.eval x=u) {v':Value} {w':World} (hr:(Builtin.copy_ #[dT,sT] o.type #[v,u]).run P w=.ok v' w') (hK:K (a.put o.dst v') w') :
  if Region.wanted o (yielded ops a.tmps)=true then Oper.wp P o a w K Q else E:=by
 have hw:Region.wanted o (yielded ops a.tmps)=true:=by simp [Region.wanted,hg]
 rw [if_pos hw]
 unfold Oper.wp
 simp [execOp,hop,resolve,invoke,builtin,hd,hx,hr,Result.andThen]
 exact hK
def aCP (w:World) (es:Nat) (a:Option Addr) (n c:Nat) (cs:List Value):Prop :=
 cs.length=n * es/\n<=c/\((c=0)\/∃ g,a=some ⟨g,0,none⟩/\wU w g es (c * es) cs)
def rB (w:World) (es:Nat) (a:Option Addr) (c0 n:Nat) (cs:List Value) (v:Value) (w':World):Prop :=
 ∃ g c,v=.slice (some ⟨g,0,none⟩) n c/\n<=c/\wU w' g es (c * es) cs/\(w.heap.size<=g\/(c0≠0/\a=some ⟨g,0,none⟩))/\Went w w' (fun b=>c0≠0/\a=some ⟨b,0,none⟩)
theorem aFV:∃ inf,Go.Proofs.Tryz.prog.info? 69=some inf/\inf.size=4/\inf.bytes=48/\inf.zero=some (.agg #[.int .i64 0,.int .i64 0,.int .i64 0,.slice none 0 0]):=⟨_,rfl,rfl,rfl,rfl⟩
theorem mN:Go.Proofs.Tryz.prog.underlying 24=some (.slice 69):=rfl
theorem aGU (a:Option Addr) (n c vc:Nat) (va:Addr) (cs vs:List Value) (w:World) (h:aCP w 4 a n c cs) (hvl:vs.length=4) (hv:∀ j u,vs[j]?=some u->w.cell? (va.add j)=some u) (h1:∀ v∈vs,v.oneCell'=true) (hn:n<=1048576) :
  ∃ v' w',(∀ ty,(Builtin.append_ #[24,24] ty #[.slice a n c,.slice (some va) 1 vc]).run Go.Proofs.Tryz.prog w=.ok v' w')/\rB w 4 a c (n + 1) (cs ++ vs) v' w':=by
 obtain ⟨hl,hc,h⟩:=h
 obtain ⟨inf,hinf,hsize,hbytes,hzero⟩:=aFV
 have hvl':vs.length=1 * inf.size:=by rw [hsize,hvl]
 have hext:∀ (ob:Obj) (X:Nat->Prop),Went w (w.drew.alloc ob) X:=fun ob X=>Went.of_ext (qU w ob) X
 rcases h with rfl|⟨g,rfl,hrow⟩
 ·have h0:n=0:=by omega
  subst h0
  have hcs:cs=[]:=List.eq_nil_of_length_eq_zero (by simpa using hl)
  subst hcs
  refine ⟨_,_,fun ty=>mQ (ty:=ty) mN hinf hzero a va 1 vc vs hvl' hv (by omega) (by omega) (by rw [hbytes]; omega),?_⟩
  have hge:=grownCap_ge w 1 0 69
  refine ⟨w.heap.size,_,rfl,hge,⟨⟨_,_,dY.new w.drew _ _,?_,by simp⟩,fun _=>gN.new w.drew _ _⟩,.inl (Nat.le_refl _),hext _ _⟩
  rw [Array.size_append,List.size_toArray,size_zeroCells,hvl]
  show 4 + (grownCap w 1 0 _ - 1) * 4=_
  omega
 ·obtain ⟨⟨cur,E,hcur,hsz,htk⟩,hnm⟩:=hrow
  by_cases hroom:n + 1<=c
  ·have hfit:n * inf.size + vs.length<=cur.size:=by
    rw [hsize,hvl,hsz]; omega
   refine ⟨_,_,fun ty=>kH (ty:=ty) mN hinf g n c cur hcur va 1 vc vs hvl' hv h1 hroom hfit,?_⟩
   refine ⟨g,c,rfl,hroom,⟨⟨_,E,hcur.set ?_,?_,?_⟩,fun he=>(hnm he).set hcur⟩,.inr ⟨by omega,rfl⟩,?_⟩
   ·simp only [List.size_toArray,List.length_append,List.length_take,List.length_drop,Array.length_toList]
    rw [Nat.min_eq_left (by omega)]; omega
   ·rw [<- hsz]
    simp only [List.size_toArray,List.length_append,List.length_take,List.length_drop]
    have:cur.toList.length=cur.size:=by simp
    rw [Nat.min_eq_left (by omega)]; omega
   ·have e1:cur.toList.take (n * inf.size)=cs:=by rw [hsize,<-hl]; exact htk
    show (cur.toList.take (n * inf.size) ++ vs ++ _).take (cs ++ vs).length=_
    rw [e1,List.take_left]
   ·have:=cP w g (cur.toList.take (n * inf.size) ++ vs ++ cur.toList.drop (n * inf.size + vs.length)).toArray
    exact ⟨this.os,this.tape,this.output,this.size,fun b hb hx=>this.kept b hb fun e=>hx ⟨by omega,by rw [e]⟩⟩
  ·have hcell0:∀ j u,cs[j]?=some u->w.cell? ((⟨g,0,none⟩:Addr).add j)=some u:=by
    have:=eU.of_row (M:=fun _=>False) (⟨cur,E,hcur,hsz,htk⟩:eI w g _ cs) (fun h=>h)
    rcases this with h8|h8
    ·exact fun j u hu=>by rw [h8] at hu; simp at hu
    ·exact h8.2.2
   refine ⟨_,_,fun ty=>run_append_grow (P:=Go.Proofs.Tryz.prog) w _ ty _ inf _ mN hinf hzero ⟨g,0,none⟩ n c cs (by rw [hsize]; exact hl) hcell0 va 1 vc vs hvl' hv (by omega) (by omega) (by rw [hbytes]; exact growslice_fits (by omega) (by omega)),?_⟩
   have hge:=grownCap_ge w (n + 1) c 69
   refine ⟨w.heap.size,_,rfl,hge,⟨⟨_,_,dY.new w.drew _ _,?_,?_⟩,fun _=>gN.new w.drew _ _⟩,.inl (Nat.le_refl _),hext _ _⟩
   ·rw [Array.size_append,Array.size_append,List.size_toArray,List.size_toArray,size_zeroCells,hvl,hl]
    show n * 4 + 4 + (grownCap w (n + 1) c _ - (n + 1)) * 4=_
    omega
   ·rw [Array.toList_append,Array.toList_append]; exact List.take_left
theorem sV (a:Option Addr) (n c vc:Nat) (va:Addr) (cs vs:List Value) (w:World) (h:aCP w 4 a n c cs) (hvl:vs.length=4) (hv:∀ j u,vs[j]?=some u->w.cell? (va.add j)=some u) (h1:∀ v∈vs,v.oneCell'=true) (hn:n<=1048576) :
  Calls Go.Proofs.Tryz.prog 71 #[.slice a n c,.int .i64 n,.slice (some va) 1 vc] w fun e w'=>∃ v,e=.returned v/\rB w 4 a c (n + 1) (cs ++ vs) v w':=by
 obtain ⟨v',w',hrun,hG⟩:=aGU a n c vc va cs vs w h hvl hv h1 hn
 have hc:=h.2.1
 clear h hv h1
 have mixed:Go.Proofs.Tryz.prog.follows .mixedOrders=true:=rfl
 have hnt:Go.Proofs.Tryz.f71.ntmps=95:=rfl
 have hG':Hid (rB w 4 a c (n + 1) (cs ++ vs) v' w'):=hG
 clear hG
 go_enter Go.Proofs.Tryz.func71,hnt
 cases a with
 | none =>
  go_wp2_with (at_builtin; refine Lib.wpList_append_run _ rfl _ _ _ _ rfl _ _ rfl rfl _ _ (hrun _) ?_)
  all_goals (go_ret; first|exact ⟨v',rfl,hG'.out⟩|(have hx:=hG'.out; rw [‹c=n›] at hx; exact ⟨v',rfl,hx⟩))
 | some ad =>
  obtain ⟨ab,ao,asp⟩:=ad
  go_wp2_with (at_builtin; refine Lib.wpList_append_run _ rfl _ _ _ _ rfl _ _ rfl rfl _ _ (hrun _) ?_)
  all_goals (go_ret; first|exact ⟨v',rfl,hG'.out⟩|(have hx:=hG'.out; rw [‹c=n›] at hx; exact ⟨v',rfl,hx⟩))
theorem aBZ {cs:List Value} {cur:List Value} (h:cur.take cs.length=cs) {k:Nat} (hk:k<=cs.length):cur.take k=cs.take k:=by
 conv=>rhs; rw [<- h]
 rw [List.take_take,Nat.min_eq_left hk]
theorem yC (g n c i vc:Nat) (va:Addr) (cs vs:List Value) (w:World) (hl:cs.length=n * 4) (hc:n<=c) (hrow:wU w g 4 (c * 4) cs) (hvl:vs.length=4) (hv:∀ j u,vs[j]?=some u->w.cell? (va.add j)=some u) (h1:∀ v∈vs,v.oneCell'=true) (h1c:∀ v∈cs,v.oneCell'=true) (hn:n<=1048576) (hi:i < n) (hfull:c < n + 1) :
  Calls Go.Proofs.Tryz.prog 71 #[.slice (some ⟨g,0,none⟩) n c,.int .i64 i,.slice (some va) 1 vc] w fun e w'=>∃ v,e=.returned v/\rB w 4 (some ⟨g,0,none⟩) c (n + 1) (cs.take (i * 4) ++ vs ++ cs.drop (i * 4)) v w':=by
 obtain ⟨inf,hinf,hsize,hbytes,hzero⟩:=aFV
 obtain ⟨⟨cur,E,hcur,hsz,htk⟩,hnm⟩:=hrow
 have hfit:cs.length<=cur.toList.length:=by
  have e:cur.toList.length=cur.size:=by simp
  rw [e,hsz,hl]; omega
 have hcell:∀ j u,cs[j]?=some u->w.cell? ⟨g,j,none⟩=some u:=fun j u hu=>by
  rw [hcur.cell,<-Array.getElem?_toList]
  rw [<- htk,List.getElem?_take] at hu
  split at hu
  ·exact hu
  ·cases hu
 have hgl:=hcur.lt
 have hvl':vs.length=Nat.min 1 (n + 1 - i) * inf.size:=by
  rw [hsize,hvl,show Nat.min 1 (n + 1 - i)=1 from Nat.min_eq_left (by omega)]
 have hva:va.block < w.heap.size:=by
  obtain ⟨u,hu⟩:=bM (show 0 < vs.length by omega)
  have:=block_lt_of_cell (hv 0 u hu)
  rwa [show (va.add 0).block=va.block from by unfold Addr.add; split<;>rfl] at this
 have hkk:(n:Int) + (1:Int) - (i:Int)=((n + 1 - i:Nat):Int):=by omega
 have hik:i + (n + 1 - i)=n + 1:=by omega
 have hold:(Builtin.firstCells inf.size i (.slice (some ⟨g,0,none⟩) i c)).run Go.Proofs.Tryz.prog w.drew=.ok (cs.take (i * 4)).toArray w.drew :=
  run_firstCells_some w.drew inf.size i ⟨g,0,none⟩ i c (cs.take (i * 4)) (by rw [List.length_take,hl,hsize]; omega) (fun j v hj=>by
   rw [Addr.add_lit,Nat.zero_add]
   rw [List.getElem?_take] at hj
   split at hj
   ·exact hcell j v hj
   ·cases hj)
 obtain ⟨G,hG⟩:∃ G,G=grownCap w (n + 1) c 69:=⟨_,rfl⟩
 obtain ⟨N,hN⟩:∃ N,N=w.heap.size:=⟨_,rfl⟩
 have hGn:n + 1<=G:=by rw [hG]; exact grownCap_ge w _ _ _
 obtain ⟨ROW,hROW⟩:∃ ROW:Array Value,ROW=(cs.take (i * 4)).toArray ++ Builtin.zeroCells (Value.agg #[.int .i64 0,.int .i64 0,.int .i64 0,.slice none 0 0]).cells (n + 1 - i) ++ Builtin.zeroCells (Value.agg #[.int .i64 0,.int .i64 0,.int .i64 0,.slice none 0 0]).cells (G - (n + 1)):=⟨_,rfl⟩
 obtain ⟨W1,hW1⟩:∃ W1,W1=w.drew.alloc (.cells ROW 69):=⟨_,rfl⟩
 have hrz:∀ ty,(Builtin.append_ #[24,3] ty #[.slice (some ⟨g,0,none⟩) i c,.int .i64 ((n:Int) + (1:Int) - (i:Int))]).run Go.Proofs.Tryz.prog w=.ok (.slice (some ⟨N,0,none⟩) (n + 1) G) W1:=fun ty=>by
  have h:=Lib.run_append_grow_zeros (P:=Go.Proofs.Tryz.prog) w 24 3 ty 69 inf _ .i64 .i64 mN rfl hinf hzero (some ⟨g,0,none⟩) i c (cs.take (i * 4)) hold (n + 1 - i) (by omega) (by omega) (by omega) (by omega) (by rw [hbytes]; omega) (by rw [hbytes,hik]; exact growslice_fits (by omega) (by omega))
  rw [hik,<-hG,<-hROW,<-hW1,<-hN] at h
  rw [hkk]
  exact h
 have hRl:ROW.size=G * 4:=by
  rw [hROW,Array.size_append,Array.size_append,List.size_toArray,size_zeroCells,size_zeroCells,List.length_take,hl,Nat.min_eq_left (by omega)]
  show i * 4 + (n + 1 - i) * 4 + (G - (n + 1)) * 4=_
  omega
 have hRt:ROW.toList.take (i * 4)=cs.take (i * 4):=by
  rw [hROW,Array.toList_append,Array.toList_append,List.append_assoc]
  exact List.take_left' (by rw [List.length_take,hl]; omega)
 have hc1:dY W1 N ROW 69:=by rw [hW1,hN]; exact dY.new w.drew _ _
 have hm1:gN W1 N:=by rw [hW1,hN]; exact gN.new w.drew _ _
 have hx1:iW w W1:=by rw [hW1]; exact qU w _
 obtain ⟨row2,hrow2⟩:∃ row2,row2=(ROW.toList.take (i * 4) ++ vs ++ ROW.toList.drop (i * 4 + vs.length)).toArray:=⟨_,rfl⟩
 obtain ⟨W2,hW2⟩:∃ W2,W2=W1.setRow N row2:=⟨_,rfl⟩
 have hRL:ROW.toList.length=ROW.size:=by simp
 have h2s:row2.size=ROW.size:=by
  rw [hrow2,List.size_toArray,List.length_append,List.length_append,List.length_take,List.length_drop,hvl,hRL,hRl]
  omega
 have hcpA:∀ ty dc,(Builtin.copy_ #[24,24] ty #[.slice (some ⟨N,i * 4,none⟩) (n + 1 - i) dc,.slice (some va) 1 vc]).run Go.Proofs.Tryz.prog W1=.ok (goInt (Nat.min 1 (n + 1 - i))) W2:=fun ty dc=>by
  rw [hW2,hrow2]
  refine j6 mN hinf hc1 va 1 vc vs hvl' (fun j u hu=>?_) h1 (by rw [hvl,hRl]; omega)
  rw [World.cell?_of_block (w:=w) (by rw [show (va.add j).block=va.block from by unfold Addr.add; split<;>rfl]; exact hx1.block _ hva)]
  exact hv j u hu
 have hc2:dY W2 N row2 69:=by rw [hW2]; exact hc1.set h2s
 have hm2:gN W2 N:=by rw [hW2]; exact hm1.set hc1
 have hk2:∀ b,b < w.heap.size->W2.heap[b]?=w.heap[b]?:=fun b hb=>by
  rw [hW2,setRow_other _ _ _ _ (by omega)]
  exact hx1.block b hb
 have hc2d:dY W2.drew N row2 69:=hc2
 obtain ⟨row3,hrow3⟩:∃ row3,row3=(row2.toList.take ((i + 1) * 4) ++ cs.drop (i * 4) ++ row2.toList.drop ((i + 1) * 4 + (cs.drop (i * 4)).length)).toArray:=⟨_,rfl⟩
 obtain ⟨W3,hW3⟩:∃ W3,W3=W2.drew.setRow N row3:=⟨_,rfl⟩
 have hdl:(cs.drop (i * 4)).length=(n - i) * 4:=by rw [List.length_drop,hl]; omega
 have hR2L:row2.toList.length=row2.size:=by simp
 have h3s:row3.size=row2.size:=by
  rw [hrow3,List.size_toArray,List.length_append,List.length_append,List.length_take,List.length_drop,List.length_drop,hl,hR2L,h2s,hRl]
  omega
 have hmin:Nat.min (n - i) (n + 1 - (i + 1))=n - i:=by
  have:n + 1 - (i + 1)=n - i:=by omega
  rw [this]; exact Nat.min_self _
 have hcpB:∀ ty,(Builtin.copy_ #[24,24] ty #[.slice (some ⟨N,(i + 1) * 4,none⟩) (n + 1 - (i + 1)) (G - (i + 1)),.slice (some ⟨g,i * 4,none⟩) (n - i) (c - i)]).run Go.Proofs.Tryz.prog W2.drew=.ok (goInt (Nat.min (n - i) (n + 1 - (i + 1)))) W3:=fun ty=>by
  rw [hW3,hrow3]
  refine j6 mN hinf hc2d ⟨g,i * 4,none⟩ (n - i) (c - i) (cs.drop (i * 4)) (by rw [hdl,hmin,hsize]) (fun j u hu=>?_) (fun v hv=>h1c v (List.mem_of_mem_drop hv)) (by rw [hdl,h2s,hRl]; omega)
  rw [Addr.add_lit]
  rw [List.getElem?_drop] at hu
  show W2.cell? ⟨g,i * 4 + j,none⟩=some u
  rw [World.cell?_of_block (w:=w) (a:=⟨g,i * 4 + j,none⟩) (hk2 g hgl)]
  exact hcell _ u hu
 have hfin:Hid (rB w 4 (some ⟨g,0,none⟩) c (n + 1) (cs.take (i * 4) ++ vs ++ cs.drop (i * 4)) (.slice (some ⟨N,0,none⟩) (n + 1) G) W3):=by
  refine ⟨N,G,rfl,hGn,⟨⟨row3,69,by rw [hW3]; exact hc2d.set h3s,by rw [h3s,h2s,hRl],?_⟩,fun _=>by rw [hW3]; exact gN.set hc2d (fun cur E fz e=>hm2 cur E fz e)⟩,.inl (by omega),?_⟩
  ·have e0:(cs.take (i * 4) ++ vs).length=(i + 1) * 4:=by rw [List.length_append,List.length_take,hl,hvl,Nat.min_eq_left (by omega)]; omega
   have e2:row2.toList.take ((i + 1) * 4)=cs.take (i * 4) ++ vs:=by
    rw [hrow2,hRt]
    show (cs.take (i * 4) ++ vs ++ _).take ((i + 1) * 4)=_
    exact List.take_left' e0
   rw [hrow3,e2]
   show (cs.take (i * 4) ++ vs ++ cs.drop (i * 4) ++ _).take (cs.take (i * 4) ++ vs ++ cs.drop (i * 4)).length=_
   rw [List.take_left]
  ·have hd:=cP W2.drew N row3
   have ha:=cP W1 N row2
   rw [<- hW2] at ha
   rw [<- hW3] at hd
   refine ⟨hd.os.trans (ha.os.trans hx1.os),hd.tape.trans (ha.tape.trans hx1.tape),hd.output.trans (ha.output.trans hx1.output),Nat.le_trans hx1.size (Nat.le_trans ha.size hd.size),fun b hb _=>?_⟩
   rw [hW3,setRow_other _ _ _ _ (by omega)]
   exact hk2 b hb
 have mixed:Go.Proofs.Tryz.prog.follows .mixedOrders=true:=rfl
 have hnt:Go.Proofs.Tryz.f71.ntmps=95:=rfl
 have q1:¬ ((i:Int)=(n:Int)):=by omega
 have q2:(c:Int) < (n:Int) + 1:=by omega
 have q3:¬ (G=i):=by omega
 have q4:¬ (G=i + 1):=by omega
 have q5:¬ (c=i):=by omega
 have q6:i<=n:=by omega
 have q7:i<=c:=by omega
 have hw1:IntKind.i64.wrap ((i:Int) + (1:Int))=(i:Int) + (1:Int):=by rw [IntKind.wrap_i64]; omega
 have hb1:(0:Int)<=(i:Int) + (1:Int):=by omega
 have htn:((i:Int) + (1:Int)).toNat=i + 1:=by omega
 have hb3:(i:Int)<=(n:Int):=by omega
 have X1:Hid (∀ ty,(Builtin.append_ #[24,3] ty #[.slice (some ⟨g,0,none⟩) i c,.int .i64 ((n:Int) + (1:Int) - (i:Int))]).run Go.Proofs.Tryz.prog w=.ok (.slice (some ⟨N,0,none⟩) (n + 1) G) W1):=hrz
 have X2:Hid (∀ ty dc,(Builtin.copy_ #[24,24] ty #[.slice (some ⟨N,i * 4,none⟩) (n + 1 - i) dc,.slice (some va) 1 vc]).run Go.Proofs.Tryz.prog W1=.ok (goInt (Nat.min 1 (n + 1 - i))) W2):=hcpA
 have X3:Hid (∀ ty,(Builtin.copy_ #[24,24] ty #[.slice (some ⟨N,(i + 1) * 4,none⟩) (n + 1 - (i + 1)) (G - (i + 1)),.slice (some ⟨g,i * 4,none⟩) (n - i) (c - i)]).run Go.Proofs.Tryz.prog W2.drew=.ok (goInt (Nat.min (n - i) (n + 1 - (i + 1)))) W3):=hcpB
 clear hcpB X2 hrz hold hrow3 hrow2 hW1 hW2 hW3 hROW hRl hRt hc1 hm1 hx1 hRL h2s hc2 hm2 hk2 hc2d hdl hR2L h3s hmin hv h1 h1c hcell hcur hnm htk hsz hfit hva hvl hvl' hl hkk hik hG hN hgl hinf hsize hbytes hzero
 go_enter Go.Proofs.Tryz.func71,hnt
 go_wp2_with (first
  |(at_builtin; refine Lib.wpList_append_run _ rfl _ _ _ _ rfl _ _ rfl rfl _ _ (X1.out _) ?_)
  | fail)
 go_region_law_o (refine pH rfl _ _ 24 24 rfl _ _ (by simp [Act.eval,Act.put]) (by simp [Act.eval,Act.put]) (X3.out _) ?_)
 go_wp2
 go_ret
 exact ⟨_,rfl,hfin.out⟩
end Go.Pe.Tryz
set_option maxRecDepth 100000
set_option maxHeartbeats 4000000
set_option linter.all false
namespace Go.Pe.Tryz
open Nat (reduceEqDiff reduceAdd reduceSub reduceLT)
open Go Go.RowKit Go.Shelf Go.Lib Go.Proofs.Tryz
theorem sJ {P:Program} (w:World) (tS tR e:TypeId) (ht:P.underlying tS=some (.slice e)) (size:Nat) (hz:∀ w,(Go.sizeOf e).run P w=.ok size w)
  (a b:Addr) (la ca lb cb:Nat) (hne:a.block≠b.block) (tA tB:TypeId) (kA kB:Nat)
  (hsa:w.shape? a.block=some (tA,kA)) (hkA:kA≠0) (hsb:w.shape? b.block=some (tB,kB))
  (hfb:w.frozen? b=false) (hfe:w.frozen? { block:=b.block,off:=kB }=false) :
  (Extern.SlicesOverlaps.overlaps #[tS,tS] #[tR] #[.slice (some a) la ca,.slice (some b) lb cb]).run P w=.ok (.bool false) w:=by
 have hnb:(a.block != b.block)=true:=by simpa using hne
 have hnb':(a.block == b.block)=false:=by simpa using hne
 change Sem.run P (α := Value) (underlying tS >>= _) w = _
 by_cases h0:la=0\/lb=0\/size=0
 ·simp [run_underlying ht,hz,h0]
 ·cases kA with
  | zero=>exact absurd rfl hkA
  | succ kA =>
   cases h1:w.frozen? a<;>cases h2:w.frozen? { block:=a.block,off:=kA + 1 } <;>
    simp [run_underlying ht,hz,h0,hnb,hnb',frozen,noView,viewAt,mayBeOne,stringish,shape,Sem.run,hsa,hsb,hfb,hfe,h1,h2]
theorem sS {w:World} {g:Nat} {cur:Array Value} {E:TypeId} (h:dY w g cur E) (hn:gN w g) (k:Nat):w.frozen? ⟨g,k,none⟩=false:=by
 obtain ⟨fz,h1,_⟩:=h
 have:=hn _ _ _ h1
 obtain ⟨lo,hi⟩:=fz
 simp only [World.frozen?,h1,Bool.and_eq_false_iff,decide_eq_false_iff_not]
 simp only at this
 omega
theorem aB4 {w:World} {g:Nat} {cur:Array Value} {E:TypeId} (h:dY w g cur E):w.shape? g=some (E,cur.size):=by
 obtain ⟨fz,h1,_⟩:=h
 simp [World.shape?,h1]
theorem wZ {w:World} {a:Addr} {v:Value} (h:w.cell? a=some v):∃ t k,w.shape? a.block=some (t,k)/\k≠0:=by
 unfold World.cell? at h
 unfold World.shape?
 split at h
 ·rename_i c t fz hb
  split at h
  ·cases h
  ·refine ⟨t,c.size,rfl,fun e=>?_⟩
   have:=(Array.getElem?_eq_some_iff.1 h).1
   omega
 ·cases h
theorem w2 (g n c i vc:Nat) (va:Addr) (cs vs:List Value) (w:World) (hl:cs.length=n * 4) (hrow:wU w g 4 (c * 4) cs) (hvl:vs.length=4) (hv:∀ j u,vs[j]?=some u->w.cell? (va.add j)=some u) (hvg:va.block≠g) (h1:∀ v∈vs,v.oneCell'=true) (h1c:∀ v∈cs,v.oneCell'=true) (hn:n<=1048576) (hi:i < n) (hroom:n + 1<=c) :
  Calls Go.Proofs.Tryz.prog 71 #[.slice (some ⟨g,0,none⟩) n c,.int .i64 i,.slice (some va) 1 vc] w fun e w'=>∃ v,e=.returned v/\rB w 4 (some ⟨g,0,none⟩) c (n + 1) (cs.take (i * 4) ++ vs ++ cs.drop (i * 4)) v w':=by
 obtain ⟨inf,hinf,hsize,hbytes,hzero⟩:=aFV
 obtain ⟨⟨cur,E,hcur,hsz,htk⟩,hnm⟩:=hrow
 have hnm:=hnm (by decide)
 have hcl:cur.toList.length=cur.size:=by simp
 have hblk:∀ j,(va.add j).block=va.block:=fun j=>by unfold Addr.add; split<;>rfl
 have hvl':vs.length=Nat.min 1 (n + 1 - i) * inf.size:=by
  rw [hsize,hvl,show Nat.min 1 (n + 1 - i)=1 from Nat.min_eq_left (by omega)]
 obtain ⟨tA,kA,hsa,hkA⟩:∃ t k,w.shape? va.block=some (t,k)/\k≠0:=by
  obtain ⟨u,hu⟩:=bM (show 0 < vs.length by omega)
  have:=wZ (hv 0 u hu)
  rwa [hblk] at this
 have hov:∀ lb cb,(callFunc 100 #[.slice (some va) 1 vc,.slice (some ⟨g,(i + 1) * 4,none⟩) lb cb]).run Go.Proofs.Tryz.prog w=.ok (.value (.bool false)) w:=fun lb cb=>by
  rw [run_callFunc_extern (by rfl:Go.Proofs.Tryz.prog.funcs[100]?=some Go.Proofs.Tryz.f100) (by kernel_rfl) (by kernel_rfl) (by kernel_rfl) (e:=Extern.SlicesOverlaps.overlaps #[24,24] #[4]) (by kernel_rfl),
   sJ w 24 4 69 mN 4 (fun w=>by simp [sizeOf,typeInfo,hinf,hsize]) va ⟨g,(i + 1) * 4,none⟩ 1 vc lb cb hvg tA E kA cur.size hsa hkA (aB4 hcur) (sS hcur hnm _) (sS hcur hnm _)]
  rfl
 have hcurd:dY w.drew g cur E:=hcur
 obtain ⟨row1,hrow1⟩:∃ row1,row1=(cur.toList.take ((i + 1) * 4) ++ cs.drop (i * 4) ++ cur.toList.drop ((i + 1) * 4 + (cs.drop (i * 4)).length)).toArray:=⟨_,rfl⟩
 obtain ⟨W1,hW1⟩:∃ W1,W1=w.drew.setRow g row1:=⟨_,rfl⟩
 have hdl:(cs.drop (i * 4)).length=(n - i) * 4:=by rw [List.length_drop,hl]; omega
 have h1s:row1.size=cur.size:=by
  rw [hrow1,List.size_toArray,List.length_append,List.length_append,List.length_take,List.length_drop,List.length_drop,hl,hcl,hsz]
  omega
 have hmin:Nat.min (n + 1 - i) (n + 1 - (i + 1))=n - i:=by
  have:n + 1 - (i + 1)=n - i:=by omega
  rw [this]; exact Nat.min_eq_right (by omega)
 have hcpB:∀ ty,(Builtin.copy_ #[24,24] ty #[.slice (some ⟨g,(i + 1) * 4,none⟩) (n + 1 - (i + 1)) (c - (i + 1)),.slice (some ⟨g,i * 4,none⟩) (n + 1 - i) (c - i)]).run Go.Proofs.Tryz.prog w.drew=.ok (goInt (Nat.min (n + 1 - i) (n + 1 - (i + 1)))) W1:=fun ty=>by
  rw [hW1,hrow1]
  refine j6 mN hinf hcurd ⟨g,i * 4,none⟩ (n + 1 - i) (c - i) (cs.drop (i * 4)) (by rw [hdl,hmin,hsize]) (fun j u hu=>?_) (fun v hv=>h1c v (List.mem_of_mem_drop hv)) (by rw [hdl,hsz]; omega)
  rw [Addr.add_lit,hcurd.cell,<-Array.getElem?_toList]
  rw [List.getElem?_drop,<-htk,List.getElem?_take] at hu
  split at hu
  ·exact hu
  ·cases hu
 have hc1:dY W1 g row1 E:=by rw [hW1]; exact hcurd.set h1s
 have hm1:gN W1 g:=by rw [hW1]; exact gN.set hcurd (fun cur E fz e=>hnm cur E fz e)
 have hR1L:row1.toList.length=row1.size:=by simp
 obtain ⟨row2,hrow2⟩:∃ row2,row2=(row1.toList.take (i * 4) ++ vs ++ row1.toList.drop (i * 4 + vs.length)).toArray:=⟨_,rfl⟩
 obtain ⟨W2,hW2⟩:∃ W2,W2=W1.setRow g row2:=⟨_,rfl⟩
 have h2s:row2.size=row1.size:=by
  rw [hrow2,List.size_toArray,List.length_append,List.length_append,List.length_take,List.length_drop,hvl,hR1L,h1s,hsz]
  omega
 have hcpA:∀ ty dc,(Builtin.copy_ #[24,24] ty #[.slice (some ⟨g,i * 4,none⟩) (n + 1 - i) dc,.slice (some va) 1 vc]).run Go.Proofs.Tryz.prog W1=.ok (goInt (Nat.min 1 (n + 1 - i))) W2:=fun ty dc=>by
  rw [hW2,hrow2]
  refine j6 mN hinf hc1 va 1 vc vs hvl' (fun j u hu=>?_) h1 (by rw [hvl,h1s,hsz]; omega)
  rw [World.cell?_of_block (w:=w) (by rw [hblk,hW1,setRow_other _ _ _ _ hvg]; rfl)]
  exact hv j u hu
 have hfin:Hid (rB w 4 (some ⟨g,0,none⟩) c (n + 1) (cs.take (i * 4) ++ vs ++ cs.drop (i * 4)) (.slice (some ⟨g,0,none⟩) (n + 1) c) W2):=by
  refine ⟨g,c,rfl,hroom,⟨⟨row2,E,by rw [hW2]; exact hc1.set h2s,by rw [h2s,h1s,hsz],?_⟩,fun _=>by rw [hW2]; exact hm1.set hc1⟩,.inr ⟨by omega,rfl⟩,?_⟩
  ·have ht:cur.toList.take (i * 4)=cs.take (i * 4):=aBZ htk (by rw [hl]; omega)
   have e1:row1.toList.take (i * 4)=cs.take (i * 4):=by
    rw [hrow1]
    show (cur.toList.take ((i + 1) * 4) ++ cs.drop (i * 4) ++ _).take (i * 4)=_
    rw [List.append_assoc,List.take_append_of_le_length (by rw [List.length_take,hcl,hsz]; omega),List.take_take,Nat.min_eq_left (by omega),ht]
   have e2:(row1.toList.drop (i * 4 + vs.length)).take ((n - i) * 4)=cs.drop (i * 4):=by
    rw [hrow1,hvl]
    show ((cur.toList.take ((i + 1) * 4) ++ cs.drop (i * 4) ++ _).drop (i * 4 + 4)).take ((n - i) * 4)=_
    rw [List.append_assoc,show i * 4 + 4=(i + 1) * 4 by omega,List.drop_left' (by rw [List.length_take,hcl,hsz]; omega)]
    exact List.take_left' hdl
   have hlt:(cs.take (i * 4)).length=i * 4:=by rw [List.length_take,hl]; omega
   rw [hrow2,e1]
   show (cs.take (i * 4) ++ vs ++ row1.toList.drop (i * 4 + vs.length)).take (cs.take (i * 4) ++ vs ++ cs.drop (i * 4)).length=_
   have el:(cs.take (i * 4) ++ vs ++ cs.drop (i * 4)).length=(cs.take (i * 4) ++ vs).length + (n - i) * 4:=by rw [List.length_append,hdl]
   rw [el,List.take_append,List.take_of_length_le (Nat.le_add_right _ _),Nat.add_sub_cancel_left,e2]
  ·have hd:=cP w.drew g row1
   have ha:=cP W1 g row2
   rw [<- hW1] at hd
   rw [<- hW2] at ha
   refine ⟨ha.os.trans hd.os,ha.tape.trans hd.tape,ha.output.trans hd.output,Nat.le_trans hd.size ha.size,fun b hb hx=>?_⟩
   have hbg:b≠g:=fun e=>hx ⟨by omega,by rw [e]⟩
   rw [hW2,setRow_other _ _ _ _ hbg,hW1,setRow_other _ _ _ _ hbg]
   rfl
 have mixed:Go.Proofs.Tryz.prog.follows .mixedOrders=true:=rfl
 have hnt:Go.Proofs.Tryz.f71.ntmps=95:=rfl
 have q1:¬ ((i:Int)=(n:Int)):=by omega
 have q2:¬ ((c:Int) < (n:Int) + 1):=by omega
 have q3:¬ (c=n):=by omega
 have q4:¬ (c=i + 1):=by omega
 have q5:¬ (c=i):=by omega
 have q6:i<=n:=by omega
 have q7:i<=c:=by omega
 have hw1:IntKind.i64.wrap ((i:Int) + (1:Int))=(i:Int) + (1:Int):=by rw [IntKind.wrap_i64]; omega
 have hw2:IntKind.i64.wrap ((n:Int) + (1:Int))=(n:Int) + (1:Int):=by rw [IntKind.wrap_i64]; omega
 have hb1:(0:Int)<=(i:Int) + (1:Int):=by omega
 have hb2:(0:Int)<=(n:Int) + (1:Int):=by omega
 have htn:((i:Int) + (1:Int)).toNat=i + 1:=by omega
 have htn2:((n:Int) + (1:Int)).toNat=n + 1:=by omega
 have hb3:(i:Int)<=(n:Int):=by omega
 have hb4:(n:Int) + 1<=(c:Int):=by omega
 have hb5:(i:Int) + 1<=(n:Int) + 1:=by omega
 have hb6:(i:Int)<=(n:Int) + 1:=by omega
 have X3:Hid (∀ ty,(Builtin.copy_ #[24,24] ty #[.slice (some ⟨g,(i + 1) * 4,none⟩) (n + 1 - (i + 1)) (c - (i + 1)),.slice (some ⟨g,i * 4,none⟩) (n + 1 - i) (c - i)]).run Go.Proofs.Tryz.prog w.drew=.ok (goInt (Nat.min (n + 1 - i) (n + 1 - (i + 1)))) W1):=hcpB
 clear hcpB hrow1 hrow2 hW1 hW2 hc1 hm1 h2s h1s hcurd hdl hR1L hmin hv h1 h1c hcur hnm htk hsz hvl hvl' hl hinf hsize hbytes hzero hcl hblk hsa hkA hvg
 go_enter Go.Proofs.Tryz.func71,hnt
 go_wp2_with (simp only [hov])
 go_region_law_o (refine pH rfl _ _ 24 24 rfl _ _ (by simp [Act.eval,Act.put]) (by simp [Act.eval,Act.put]) (X3.out _) ?_)
 go_wp2
 go_ret
 exact ⟨_,rfl,hfin.out⟩
theorem aAh (a:Option Addr) (n c i vc:Nat) (va:Addr) (cs vs:List Value) (w:World) (h:aCP w 4 a n c cs) (hvl:vs.length=4) (hv:∀ j u,vs[j]?=some u->w.cell? (va.add j)=some u) (hvg:a≠some ⟨va.block,0,none⟩) (h1:∀ v∈vs,v.oneCell'=true) (h1c:∀ v∈cs,v.oneCell'=true) (hn:n<=1048576) (hi:i<=n) :
  Calls Go.Proofs.Tryz.prog 71 #[.slice a n c,.int .i64 i,.slice (some va) 1 vc] w fun e w'=>∃ v,e=.returned v/\rB w 4 a c (n + 1) (cs.take (i * 4) ++ vs ++ cs.drop (i * 4)) v w':=by
 by_cases hin:i=n
 ·subst hin
  have h2:=sV a i c vc va cs vs w h hvl hv h1 hn
  rw [<- h.1,List.take_length,List.drop_length,List.append_nil]
  exact h2
 ·obtain ⟨hl,hc,h⟩:=h
  rcases h with rfl|⟨g,rfl,hrow⟩
  ·omega
  ·by_cases hroom:n + 1<=c
   ·exact w2 g n c i vc va cs vs w hl hrow hvl hv (fun e=>hvg (by rw [e])) h1 h1c hn (by omega) hroom
   ·exact yC g n c i vc va cs vs w hl hc hrow hvl hv h1 h1c hn (by omega) (by omega)
theorem uM (xs:List D) (y:D) (hs:∀ x∈xs,x.size=4) (hy:y.size=4) (i:Nat) (hi:i<=xs.length) (hn:xs.length<=1048576) :
  sO prog 71 false (.sl true 4 (eP xs)) [.int .i64 i,.sl false 4 (.cons y .nil)] (fun x' rs=>(∃ u,x'=.lnk 0 u)/\rs=[.sl true 4 (eP (xs.take i ++ y :: xs.drop i))]):=by
 intro M oc vs w hM hob hnd hlt hG hr
 obtain ⟨_,us1,f1,f2,rfl,e0,⟨rfl,rfl⟩,cv,us2,f3,f4,rfl,e1,hsv,rfl,rfl⟩:=hr
 have e1':f3=[]:=by
  rw [e1] at e0
  simpa using e0.symm
 subst e1'
 obtain ⟨_,av,vc,dv,fpv,rfl,hvc,hv3,hv4⟩:=hsv
 simp only [Bool.false_eq_true,if_false] at hv4
 obtain ⟨rfl,_,hv5⟩:=hv4
 obtain ⟨y1,y2,p1,p2,rfl,e2,hyr,rfl,rfl⟩:=hv3
 have e2':p1=[]:=by simpa using e2.symm
 subst e2'
 rw [List.append_nil] at hv5
 have hyl:y1.length=4:=by rw [aW _ _ _ hyr,hy]
 have hy1:=jZ _ _ _ hyr
 rcases hv5 with hv5|⟨va,rfl,hH⟩
 ·exact absurd hv5 (by simp [D.len])
 rcases hH with hH|⟨hvb,hvM,hvcell⟩
 ·rw [hH] at hyl; simp at hyl
 obtain ⟨cs0,hrep,hv⟩:=hob
 obtain ⟨hL,a,c,ds,fps,rfl,hc,h3,h4⟩:=hrep
 rw [bY] at hc hv
 simp only [if_true] at h4
 have hone:=jZ _ _ _ h3
 have hdl:ds.length=xs.length * 4:=by rw [aW _ _ _ h3,e8 _ hs]
 have hv':rN false oc=.slice a xs.length c:=by
  show oc.v=_
  rw [hv]; rfl
 rw [hv']
 have hO:aCP w 4 a xs.length c ds:=⟨hdl,hc,h4.imp (fun h=>h.1) fun ⟨g,h1,h2,_⟩=>⟨g,h1,h2⟩⟩
 have hag:∀ b,c≠0/\a=some ⟨b,0,none⟩->oc.fp=b :: fps:=fun b hb=>by
  rcases h4 with ⟨h,_⟩|⟨g,h1,_,h2⟩
  ·exact absurd h hb.1
  ·have h3:=hb.2
   rw [h1] at h3
   injection h3 with h3
   injection h3 with h3
   rw [h2,<-h3]
 have hfpo:∀ b∈fps,b∈oc.fp:=fun b hb=>by
  rcases h4 with ⟨_,h,_⟩|⟨g,_,_,h2⟩
  ·rw [h] at hb; cases hb
  ·rw [h2]; simp [hb]
 have hfpn:fps.Nodup:=by
  rcases h4 with ⟨_,h,_⟩|⟨g,_,_,h2⟩
  ·rw [h]; exact List.nodup_nil
  ·rw [h2] at hnd; exact (List.nodup_cons.1 hnd).2
 have h3':=h3
 rw [<- List.take_append_drop i xs] at h3'
 obtain ⟨c1,c2,q1,q2,ed,ef,r1,r2⟩:=(cM _ _ _ _).1 h3'
 have l1:c1.length=i * 4:=by
  rw [aW _ _ _ r1,e8 _ (fun y hy=>hs y (List.mem_of_mem_take hy)),List.length_take,Nat.min_eq_left (by omega)]
 have t1:ds.take (i * 4)=c1:=by rw [ed,<-l1,List.take_left]
 have t2:ds.drop (i * 4)=c2:=by rw [ed,<-l1,List.drop_left]
 have hcall:Calls Go.Proofs.Tryz.prog 71 #[.slice a xs.length c,.int .i64 i,.slice (some va) 1 vc] w fun e w'=>∃ v,e=.returned v/\rB w 4 a c (xs.length + 1) (c1 ++ y1 ++ c2) v w':=by
  rw [<- t1,<-t2]
  by_cases hin:i=xs.length
  ·have h2:=sV a xs.length c vc va ds y1 w hO hyl hvcell hy1 hn
   rw [hin,<-hdl,List.take_length,List.drop_length,List.append_nil]
   exact h2
  ·refine aAh a xs.length c i vc va ds y1 w hO hyl hvcell (fun h=>hvM (.inr ?_)) hy1 hone hn hi
   rw [hag va.block ⟨by omega,h⟩]; simp
 refine hcall.mono ?_
 rintro e w' ⟨v,rfl,g,c',rfl,k1,k2,k3,k4⟩
 have hgn:g ∉ fps:=fun h=>by
  rcases k3 with k3|k3
  ·have:=(hlt g (hfpo g h)).1; omega
  ·rw [hag g k3] at hnd; exact (List.nodup_cons.1 hnd).1 h
 have hsub:∀ b∈g :: fps,(b∈oc.fp\/w.heap.size<=b):=fun b hb=>by
  rcases List.mem_cons.1 hb with rfl|hb
  ·rcases k3 with k3|k3
   ·exact .inr k3
   ·rw [hag b k3]; exact .inl (by simp)
  ·exact .inl (hfpo b hb)
 have hgw:g < w'.heap.size:=k2.lt
 have keep:∀ b,b < w.heap.size->(b∈fps\/¬ (M b\/b∈oc.fp))->w'.heap[b]?=w.heap[b]?:=fun b hb hx=>by
  refine k4.kept b hb fun e=>?_
  have hfp:=hag b e
  rcases hx with hx|hx
  ·rw [hfp] at hnd; exact (List.nodup_cons.1 hnd).1 hx
  ·exact hx (.inr (by rw [hfp]; simp))
 have hMs:∀ b,b < w.heap.size->(M b\/b∈[] ++ (g :: fps))->(M b\/b∈oc.fp):=fun b hb h=>by
  rcases h with h|h
  ·exact .inl h
  ·rcases hsub b (by simpa using h) with h|h
   ·exact .inr h
   ·omega
 have frame:∀ (q:D) (cs:List Value) (p:List Nat),(∀ b∈p,b∈fps)->q.rep w (fun b=>M b\/b∈oc.fp) cs p->q.rep w' (fun b=>M b\/b∈[] ++ (g :: fps)) cs p:=fun q cs p hp hq =>
  bK k4.size hMs _ _ _ (fun b hb hx=>keep b hb (hx.imp (hp b) id)) hq
 have hq1:∀ b∈q1,b∈fps:=fun b hb=>by rw [ef]; simp [hb]
 have hq2:∀ b∈q2,b∈fps:=fun b hb=>by rw [ef]; simp [hb]
 have hl':(xs.take i ++ y :: xs.drop i).length=xs.length + 1:=by simp; omega
 refine ⟨.lnk 0 oc.v,_,[.slice (some ⟨g,0,none⟩) (xs.length + 1) c'],[],g :: fps,rfl,⟨⟨_,rfl⟩,rfl⟩,⟨[oc.v],⟨rfl,by rw [hv]; rfl,rfl⟩,rfl⟩,?_,?_,fun b hb=>?_,?_⟩
 ·refine ⟨[.slice (some ⟨g,0,none⟩) (xs.length + 1) c'],[],g :: fps,[],rfl,by simp,⟨(eG _).2 fun x hx=>?_,some ⟨g,0,none⟩,c',c1 ++ (y1 ++ c2),fps,by rw [bY,hl'],by rw [bY,hl']; exact k1,?_,?_⟩,rfl,rfl⟩
  ·rcases List.mem_append.1 hx with hx|hx
   ·exact hs x (List.mem_of_mem_take hx)
   ·rcases List.mem_cons.1 hx with rfl|hx
    ·exact hy
    ·exact hs x (List.mem_of_mem_drop hx)
  ·refine (cM _ _ _ _).2 ⟨c1,y1 ++ c2,q1,q2,rfl,ef,frame _ _ _ hq1 r1,⟨y1,c2,[],q2,rfl,rfl,frame _ _ _ (fun _ h=>by cases h) hyr,frame _ _ _ hq2 r2⟩⟩
  ·simp only [if_true]
   exact .inr ⟨g,rfl,by rw [<- List.append_assoc]; exact k2,rfl⟩
 ·simpa using List.nodup_cons.2 ⟨hgn,hfpn⟩
 ·have hb':b∈g :: fps:=by simpa using hb
  refine ⟨hsub b hb',?_⟩
  rcases List.mem_cons.1 hb' with rfl|h
  ·exact hgw
  ·have:=(hlt b (hfpo b h)).1
   have:=k4.size
   omega
 ·exact ⟨k4.os,k4.tape,k4.output,k4.size,fun b hb hx=>k4.kept b hb fun e=>hx (by rw [hag b e]; simp)⟩
end Go.Pe.Tryz
set_option maxRecDepth 100000
set_option maxHeartbeats 4000000
set_option linter.all false
namespace Go.Pe.Tryz
open Nat (reduceEqDiff reduceAdd reduceSub reduceLT)
open Go.Proofs.Tryz Go.Sort
theorem iW.grow {w:World} (k:Nat) (os:Array Obj):iW w (Go.Sort.grow (w.drewN k) os):=by
 refine ⟨rfl,rfl,rfl,?_,?_⟩
 ·simp [Go.Sort.grow,World.drewN]
 ·intro b hb
  simp only [Go.Sort.grow]
  exact Array.getElem?_append_left (xs:=w.heap) (ys:=os) hb
theorem aCJ (n:Int) (h:bQ .i64 n):Fn prog 115 [.int .i64 n] (fun rs=>rs=[.str (Lib.itoa n)]) :=
 aI8 rfl rfl fun w hF=>(Go.Proofs.Tryz.strconv_Itoa n (by simp only [bQ] at h; omega) (by simp only [bQ] at h; omega) w (aK9 hF)).mono (by
  rintro e w' ⟨rfl,k,os,rfl⟩
  exact ⟨rfl,iW.grow k os⟩)
theorem vC (n:Int) (h:bQ .i64 n):Fn prog 97 [.int .i64 n] (fun rs=>rs=[.str (Lib.itoa n)]):=by
 refine a8 (fn:=f97) (by exact func97) c97 r97 (n:=5) (by rfl) (rv:=[.tmp 2]) (by rfl) (by simp) ?_
 unfold m97
 try simp only [wQ]
 repeat' (first|(simp only [↓wA,↓wC,wB,aF,aE,reduceEqDiff,reduceAdd,reduceSub,reduceIte,reduceCtorEq,Nat.reduceBEq,reduceLT])|(refine aG (aCJ n h) rfl rfl ?_)|(refine aH (aCJ n h) rfl rfl ?_)|((first|apply aB|apply aC|apply aA)<;>intro h<;>try simp only [h]))
theorem aCW:∀ d:Fin 10,((([48,49,50,51,52,53,54,55,56,57]:List UInt8).take (d.val + 1)).drop d.val)=[UInt8.ofNat (48 + d.val)]:=by decide
theorem nH {u:Nat} (h:u < 10):Lib.decDigits u=[UInt8.ofNat (48 + u)]:=by
 rw [Lib.decDigits,dif_pos h]
theorem nZ {u:Nat} (h:¬ u < 10):Lib.decDigits u=Lib.decDigits (u / 10) ++ [UInt8.ofNat (48 + u % 10)]:=by
 rw [Lib.decDigits,dif_neg h]
theorem xK (d:Nat) (h:d < 10):((([48,49,50,51,52,53,54,55,56,57]:List UInt8).take (d + 1)).drop d)=[UInt8.ofNat (48 + d)]:=aCW ⟨d,h⟩
theorem aAN (u:Nat):Lib.itoa (u:Int)=Lib.decDigits u:=by
 unfold Lib.itoa
 rw [if_neg (by omega)]
 simp
theorem qJ (u:Nat) (h:u<=9223372036854775807):(Lib.decDigits u).length<=21:=by
 rw [<- aAN]
 exact Lib.itoa_length_le (u:Int) (by omega) (by omega)
theorem jE (n:Int) (h:bQ .i64 n):(Lib.itoa n).length<=21:=by
 simp only [bQ] at h
 exact Lib.itoa_length_le n (by omega) (by omega)
theorem aDq:∀ (u:Nat),u<=9223372036854775807->Fn prog 99 [.int .i64 (u:Int)] (fun rs=>rs=[.str (Lib.decDigits u)]):=by
 intro u
 induction u using Nat.strongRecOn with
 | _ u ih =>
  intro hu
  have h0:decide ((u:Int) < 0)=false:=decide_eq_false (by omega)
  refine a8 (fn:=f99) (by exact func99) c99 r99 (n:=25) (by rfl) (rv:=[.tmp 2]) (by rfl) (by simp) ?_
  unfold m99
  try simp only [wQ]
  try simp only [h0,↓wA,↓wC,wB,aF,aE,reduceEqDiff,reduceAdd,reduceSub,reduceIte,reduceCtorEq,Nat.reduceBEq,reduceLT]
  by_cases h:u < 10
  ·have hd:decide ((u:Int) < 10)=true:=decide_eq_true (by omega)
   have hp:(0:Int)<=(u:Int):=by omega
   try simp only [hd,↓wA,↓wC,wB,aF,aE,reduceEqDiff,reduceAdd,reduceSub,reduceIte,reduceCtorEq,Nat.reduceBEq,reduceLT]
   refine aI (by simp only [bQ]; omega) ?_
   try simp only [hd,hp,↓wA,↓wC,wB,aF,aE,reduceEqDiff,reduceAdd,reduceSub,reduceIte,reduceCtorEq,Nat.reduceBEq,reduceLT]
   refine aQ ⟨by omega,by omega⟩ ?_
   rw [show ((u:Int) + 1).toNat=u + 1 by omega,Int.toNat_natCast,xK u h,nH h]
  ·have hd:decide ((u:Int) < 10)=false:=decide_eq_false (by omega)
   have hq:((u:Int)).tdiv 10=((u / 10:Nat):Int):=by rw [Int.tdiv_eq_ediv_of_nonneg (by omega)]; omega
   have hr:((u:Int)).tmod 10=((u % 10:Nat):Int):=by rw [Int.tmod_eq_emod_of_nonneg (by omega)]; omega
   try simp only [hd,hq,hr,↓wA,↓wC,wB,aF,aE,reduceEqDiff,reduceAdd,reduceSub,reduceIte,reduceCtorEq,Nat.reduceBEq,reduceLT]
   refine aQ (by decide) ?_
   refine aI (by simp only [bQ]; omega) ?_
   refine aH (ih (u / 10) (by omega) (by omega)) rfl rfl ?_
   try simp only [hr,↓wA,↓wC,wB,aF,aE,reduceEqDiff,reduceAdd,reduceSub,reduceIte,reduceCtorEq,Nat.reduceBEq,reduceLT]
   refine aQ (by decide) ?_
   refine aQ (by decide) ?_
   refine aI (by simp only [bQ]; omega) ?_
   have hp:(0:Int)<=((u % 10:Nat):Int):=by omega
   try simp only [hp,↓wA,↓wC,wB,aF,aE,reduceEqDiff,reduceAdd,reduceSub,reduceIte,reduceCtorEq,Nat.reduceBEq,reduceLT]
   refine aQ ⟨by omega,by omega⟩ ?_
   rw [show (((u % 10:Nat):Int) + 1).toNat=u % 10 + 1 by omega,Int.toNat_natCast,xK (u % 10) (by omega)]
   try simp only [↓wA,↓wC,wB,aF,aE,reduceEqDiff,reduceAdd,reduceSub,reduceIte,reduceCtorEq,Nat.reduceBEq,reduceLT]
   refine aQ (by have:=qJ (u / 10) (by omega); omega) ?_
   rw [nZ h]
theorem aA7 (n:Int) (h0:0<=n) (h:bQ .i64 n):Fn prog 99 [.int .i64 n] (fun rs=>rs=[.str (Lib.itoa n)]):=by
 obtain ⟨u,rfl⟩:=Int.eq_ofNat_of_zero_le h0
 rw [aAN]
 exact aDq u (by simp only [bQ] at h; omega)
end Go.Pe.Tryz
set_option maxRecDepth 100000
set_option maxHeartbeats 4000000
set_option linter.all false
namespace Go.Pe.Tryz
open Nat (reduceEqDiff reduceAdd reduceSub reduceLT)
open Go.Proofs.Tryz
def aMG (a:Int):List UInt8:=if a=1 then [107,101,101,112] else if a=2 then [116,114,97,110,115,102,101,114] else [100,101,115,116,114,111,121]
def pre (a:Int):List UInt8:=aMG a ++ [32,100,117,101,32]
end Go.Pe.Tryz
set_option maxRecDepth 100000
set_option maxHeartbeats 4000000
set_option linter.all false
namespace Go.Pe.Tryz
open Nat (reduceEqDiff reduceAdd reduceSub reduceLT)
open Go.Proofs.Tryz
theorem wP (p:Cs->Bool) (g:Nat) (c:D) (xs:List Cs) (hc:c.caps=true) (he:dE prog.P g=true) (hlen:xs.length<=1048576) (hp:∀ x∈xs,Fn prog g (Cs.s x :: c.list) (fun rs=>rs=[.bool (p x)])) :
  Fn prog 95 [.sl false 4 (dl Cs.s xs),.clo g c] (fun rs=>rs=[.int .i64 (fT p xs)]):=by
 refine a8 (fn:=f95) (by exact func95) c95 r95 (n:=19) (by rfl) (rv:=[.tmp 4]) (by rfl) (by simp) ?_
 unfold m95
 try simp only [wQ]
 simp only [aJ,↓wA,↓wC,wB,aF,aE,reduceEqDiff,reduceAdd,reduceSub,reduceIte,reduceCtorEq,Nat.reduceBEq,reduceLT]
 refine bL xs.length (fun i:Nat=>⟨[(0,.d (.sl false 4 (dl Cs.s xs))),(1,.d (.clo g c)),(7,.d (.int .i64 xs.length)),(8,.d (.int .i64 i))],[]⟩) (fun i=>∀ j r,j < i->xs[j]?=some r->p r=false) (aN _ rfl ⟨⟨rfl,rfl⟩,⟨rfl,rfl⟩,⟨rfl,rfl⟩,⟨rfl,rfl⟩,trivial⟩) (fun j r hj=>by omega) ?_ ?_
 ·intro i hlt hinv hd h0
  obtain ⟨r,hr⟩:=bM hlt
  have hcl:=hp r (List.mem_of_getElem? hr)
  simp only [hd,h0,aX,Int.toNat_natCast,hr,Option.map_some,aD,↓fS,↓wA,↓wC,wB,aF,aE,reduceEqDiff,reduceAdd,reduceSub,reduceIte,reduceCtorEq,Nat.reduceBEq,reduceLT]
  refine o6 (ds:=[Cs.s r]) hcl he hc (by simp [bE,bV,nI,Cs.s_unown]) rfl ?_
  cases hpr:p r with
  | true =>
   simp only [↓wA,↓wC,wB,aF,aE,reduceEqDiff,reduceAdd,reduceSub,reduceIte,reduceCtorEq,Nat.reduceBEq,reduceLT]
   rw [lZ hr hpr hinv]
  | false =>
   simp only [↓wA,↓wC,wB,aF,aE,reduceEqDiff,reduceAdd,reduceSub,reduceIte,reduceCtorEq,Nat.reduceBEq,reduceLT]
   refine aI (by simp only [bQ]; omega) ?_
   refine cK (aN _ rfl ⟨⟨rfl,rfl⟩,⟨rfl,rfl⟩,⟨rfl,rfl⟩,⟨rfl,rfl⟩,trivial⟩) hlt fun j s hj hs=>?_
   by_cases e:j=i
   ·subst e; rw [hr] at hs; injection hs with hs; rw [<- hs]; exact hpr
   ·exact hinv j s (by omega) hs
 ·intro hinv hd
  simp only [hd,↓wA,↓wC,wB,aF,aE,reduceEqDiff,reduceAdd,reduceSub,reduceIte,reduceCtorEq,Nat.reduceBEq,reduceLT]
  rw [kM fun j r hj=>hinv j r (aK hj) hj]
def d9 (xs:List Cs) (id:Int):Int:=fT (fun x:Cs=>decide (x.i=id)) xs
theorem lC (xs:List Cs) (id:Int):(decide (d9 xs id < 0)=true/\decide (0<=d9 xs id)=false)\/∃ (i:Nat) (x:Cs),d9 xs id=(i:Int)/\xs[i]?=some x/\x.i=id:=by
 by_cases h:0<=d9 xs id
 ·obtain ⟨i,x,h1,h2,h3⟩:=zM h
  exact .inr ⟨i,x,h1,h2,by simpa using h3⟩
 ·exact .inl ⟨decide_eq_true (by omega),decide_eq_false h⟩
theorem aB3 (x:Cs) (id:Int):Fn prog 96 [x.s,.ptr (.int .i64 id)] (fun rs=>rs=[.bool (decide (x.i=id))]):=by
 refine a8 (fn:=f96) (by exact func96) c96 r96 (n:=8) (by rfl) (rv:=[.tmp 3]) (by rfl) (by simp) ?_
 unfold m96
 try simp only [wQ]
 simp only [Cs.s,Cs.p]
 repeat' (first|(simp only [aS,aD,↓wA,↓wC,wB,aF,aE,reduceEqDiff,reduceAdd,reduceSub,reduceIte,reduceCtorEq,Nat.reduceBEq,reduceLT])|((first|apply aB|apply aC|apply aA)<;>intro h<;>try simp only [h]))
theorem xO (o:Off) (id:Int) (ho:o.ok0):Fn prog 64 [o.s,.int .i64 id] (fun rs=>rs=[.int .i64 (d9 o.cs id)]):=by
 have h:=wP (fun x=>decide (x.i=id)) 96 (.cons (.ptr (.int .i64 id)) .nil) o.cs rfl aL7 ho.1.1 (fun x _=>aB3 x id)
 refine dL (ps:=[[1,0]]) (fn:=f64) (by exact func64) c64 r64 (n:=9) (by rfl) (rv:=[.tmp 4]) (by rfl) (by simp) ?_
 unfold m64
 try simp only [wQ]
 simp only [cI,dD]
 repeat' (first|(simp only [Off.s_noOwn,Off.s_isV,aD,↓wA,↓wC,wB,aF,aE,reduceEqDiff,reduceAdd,reduceSub,reduceIte,reduceCtorEq,Nat.reduceBEq,reduceLT])|((first|apply aB|apply aC|apply aA)<;>intro h<;>try simp only [h]))
 refine aR (dU 1 rfl) ?_
 repeat' (first|(simp only [Off.s_noOwn,Off.s_isV,↓bG,aD,aM,qO,qX,↓wA,↓wC,wB,aF,aE,reduceEqDiff,reduceAdd,reduceSub,reduceIte,reduceCtorEq,Nat.reduceBEq,reduceLT])|(refine aG (h) rfl rfl ?_)|(refine aH (h) rfl rfl ?_)|((first|apply aB|apply aC|apply aA)<;>intro h<;>try simp only [h]))
 all_goals rfl
theorem iA (o:Off) (id:Int) (ho:o.ok0):Fn prog 66 [o.s,.int .i64 id] (fun rs=>rs=[.int .i64 (d9 o.cs id)]):=by
 have hlen:=ho.1.1
 refine a8 (fn:=f66) (by exact func66) c66 r66 (n:=22) (by rfl) (rv:=[.tmp 4]) (by rfl) (by simp) ?_
 unfold m66
 try simp only [wQ]
 repeat' (first|(simp only [Off.s_noOwn,Off.s_isV,aD,↓wA,↓wC,wB,aF,aE,reduceEqDiff,reduceAdd,reduceSub,reduceIte,reduceCtorEq,Nat.reduceBEq,reduceLT])|((first|apply aB|apply aC|apply aA)<;>intro h<;>try simp only [h]))
 refine bL o.cs.length (fun i:Nat=>⟨[(1,.d (.int .i64 id)),(2,.ptr 0 0 []),(5,.d (.int .i64 i))],[.box o.s]⟩) (fun i=>∀ j r,j < i->o.cs[j]?=some r->decide (r.i=id)=false) (aN _ rfl ⟨⟨rfl,rfl⟩,⟨rfl,rfl⟩,⟨rfl,rfl⟩,trivial⟩) (fun j r hj=>by omega) ?_ ?_
 ·intro i hlt hinv hd h0
  obtain ⟨r,hr⟩:=bM hlt
  cases h:decide (r.i=id) with
  | true =>
   repeat' (first|(simp only [aJ,aX,hd,h0,h,Int.toNat_natCast,hr,Option.map_some,aD,aM,qO,qX,uF,↓wA,↓wC,wB,aF,aE,reduceEqDiff,reduceAdd,reduceSub,reduceIte,reduceCtorEq,Nat.reduceBEq,reduceLT])|(refine aI (by simp only [bQ]; omega) ?_)|((first|apply aB|apply aC|apply aA)<;>intro h<;>try simp only [h]))
   all_goals rw [d9,lZ hr h hinv]
  | false =>
   repeat' (first|(simp only [aJ,aX,hd,h0,h,Int.toNat_natCast,hr,Option.map_some,aD,aM,qO,qX,uF,↓wA,↓wC,wB,aF,aE,reduceEqDiff,reduceAdd,reduceSub,reduceIte,reduceCtorEq,Nat.reduceBEq,reduceLT])|(refine aI (by simp only [bQ]; omega) ?_)|((first|apply aB|apply aC|apply aA)<;>intro h<;>try simp only [h]))
   all_goals
    refine cK (aN _ rfl ⟨⟨rfl,rfl⟩,⟨rfl,rfl⟩,⟨rfl,rfl⟩,trivial⟩) hlt fun j s hj hs=>?_
    by_cases e:j=i
    ·subst e; rw [hr] at hs; injection hs with hs; rw [<- hs]; exact h
    ·exact hinv j s (by omega) hs
 ·intro hinv hd
  repeat' (first|(simp only [aJ,hd,aM,aD,qO,qX,↓wA,↓wC,wB,aF,aE,reduceEqDiff,reduceAdd,reduceSub,reduceIte,reduceCtorEq,Nat.reduceBEq,reduceLT])|((first|apply aB|apply aC|apply aA)<;>intro h<;>try simp only [h]))
  all_goals rw [d9,kM fun j r hj=>hinv j r (aK hj) hj]
theorem aBA {o:Off} {i:Nat} {x:Cs} (h:bN o=true) (hr:o.cs[i]?=some x):dP x=true:=by
 simp only [bN,Bool.and_eq_true] at h
 have:=List.all_eq_true.1 h.2 i (List.mem_range.2 (aK hr))
 rw [n8 hr,Bool.and_eq_true] at this
 exact this.1
end Go.Pe.Tryz
set_option maxRecDepth 100000
set_option maxHeartbeats 4000000
set_option linter.all false
namespace Go.Pe.Tryz
open Nat (reduceEqDiff reduceAdd reduceSub reduceLT)
def lQ (id:Int):List Cs->Nat
 | []=>0
 | x :: xs=>if x.i < id then lQ id xs + 1 else 0
theorem mD {id:Int}:∀ (xs:List Cs) (j:Nat),j<=xs.length->(∀ m x,m < j->xs[m]?=some x->x.i < id)->(∀ x,xs[j]?=some x->¬ x.i < id)->lQ id xs=j
 | [],j,h,_,_=>by
  simp at h
  subst h
  rfl
 | a :: t,0,_,_,h3=>by
  rw [lQ,if_neg (h3 a rfl)]
 | a :: t,j + 1,h,h2,h3=>by
  rw [lQ,if_pos (h2 0 a (by omega) rfl),mD t j (by simpa using h) (fun m x hm hx=>h2 (m + 1) x (by omega) (by simpa using hx)) (fun x hx=>h3 x (by simpa using hx))]
def eC (x:Cs) (xs:List Cs):List Cs:=xs.take (lQ x.i xs) ++ x :: xs.drop (lQ x.i xs)
def nN (v:Int) (x:Cs):Cs:={ x with h:=x.h.filter fun n=>!decide (n=v) }
def g8 (id day:Int):List UInt8:=114 :: (Lib.itoa id ++ 32 :: 100 :: Lib.itoa day)
def fU (o:Off) (i:Nat) (x:Cs):Off :=
 if x.a=1 then { o with cs:=o.cs.eraseIdx i,kept:=o.kept + 1 }
 else if x.a=2 then { o with cs:=o.cs.eraseIdx i,moved:=o.moved + 1 }
 else { o with cs:=o.cs.eraseIdx i,led:=o.led ++ [g8 x.i o.day] }
def bP (o:Off) (x:Cs):Bool:=decide (x.d<=o.day) && (decide (x.a=1) || decide (x.a=2) || decide (x.h.length=0))
def pE (v:Int) (xs:List Cs):Bool:=xs.any fun x=>x.h.contains v
def wT (o:Off) (k id a v:Int):Option Off :=
 if k=2 then (if 0<=d9 o.cs id then none else some { o with cs:=eC ⟨id,a,o.day + v,[]⟩ o.cs })
 else if a≠0 then none
 else if k=1 then (if id=0/\1<=v then some { o with day:=o.day + v } else none)
 else if k=4 then (if id=0/\pE v o.cs=true then some { o with cs:=o.cs.map (nN v) } else none)
 else if 0<=d9 o.cs id then
  (match o.cs[(d9 o.cs id).toNat]? with
  | some x=>if k=3 then (if x.h.contains v=true then none else some { o with cs:=o.cs.set (d9 o.cs id).toNat { x with h:=gA v x.h } })
   else if k=5 then (if 1<=v then some { o with cs:=o.cs.set (d9 o.cs id).toNat { x with d:=x.d + v } } else none)
   else if k=6 then (if v=0/\bP o x=true then some (fU o (d9 o.cs id).toNat x) else none)
   else none
  | none=>none)
 else none
def d6 (o:Off) (k id a v:Int):Option Off:=if (bN o && aU v 0 20000)=true then (wT o k id a v).filter bN else none
def iG (o:Off) (k id a v:Int):Bool :=
 if k=1 then decide (id=0) && decide (a=0) && decide (1<=v)
 else if k=2 then aU id 1 999 && decide (d9 o.cs id < 0) && aU a 1 3 && decide (0<=v)
 else if k=3 then decide (0<=d9 o.cs id) && decide (a=0) && aU v 1 9
 else if k=4 then decide (id=0) && decide (a=0) && aU v 1 9
 else if k=5 then decide (0<=d9 o.cs id) && decide (a=0) && decide (1<=v)
 else decide (k=6) && decide (0<=d9 o.cs id) && decide (a=0) && decide (v=0)
def d4 (o:Off) (k id a v:Int):Option Off :=
 if k=1 then (if v > 20000 - o.day then none else some { o with day:=o.day + v })
 else if k=2 then (if v > 20000 - o.day then none else some { o with cs:=eC ⟨id,a,o.day + v,[]⟩ o.cs })
 else if k=4 then (if pE v o.cs=true then some { o with cs:=o.cs.map (nN v) } else none)
 else match o.cs[(d9 o.cs id).toNat]? with
  | some x=>if k=3 then (if x.h.contains v=true then none else some { o with cs:=o.cs.set (d9 o.cs id).toNat { x with h:=gA v x.h } })
   else if k=5 then (if v > 20000 - x.d then none else some { o with cs:=o.cs.set (d9 o.cs id).toNat { x with d:=x.d + v } })
   else if bP o x=true then some (fU o (d9 o.cs id).toNat x) else none
  | none=>none
def nL (o:Off) (k id a v:Int):Option Off:=(d4 o k id a v).filter bN
def vB (o:Off) (k id a v:Int):Option Off:=if (bN o && iG o k id a v)=true then nL o k id a v else none
theorem bT {o:Off} (h:bN o=true):0<=o.day/\o.day<=20000/\o.cs.length<=6/\0<=o.kept/\o.kept<=999/\0<=o.moved/\o.moved<=999/\o.led.length<=8/\(∀ s∈o.led,s.length<=40)/\(∀ x∈o.cs,dP x=true):=by
 have hc:∀ x∈o.cs,dP x=true:=fun x hx=>by
  obtain ⟨i,hi⟩:=List.getElem?_of_mem hx
  exact aBA h hi
 simp only [bN,mK,Bool.and_eq_true,aU,decide_eq_true_eq] at h
 obtain ⟨⟨⟨⟨⟨h1,h2⟩,h3⟩,h4⟩,h5⟩,_⟩:=h
 have hl:o.led.length<=8/\∀ s∈o.led,s.length<=40:=by
  simp only [vL,Bool.or_eq_true,Bool.not_eq_true',decide_eq_false_iff_not,gP,Bool.and_eq_true,aU,decide_eq_true_eq,List.all_eq_true,gV] at h5
  rcases h5 with h5|⟨h5,h6⟩
  ·have:o.led=[]:=List.length_eq_zero_iff.1 (by omega)
   rw [this]; simp
  ·exact ⟨by omega,fun s hs=>by have:=(h6 s hs).1; omega⟩
 exact ⟨h1.1,h1.2,by omega,h3.1,h3.2,h4.1,h4.2,hl.1,hl.2,hc⟩
theorem cG {x:Cs} (h:dP x=true):1<=x.i/\x.i<=999/\1<=x.a/\x.a<=3/\0<=x.d/\x.d<=20000/\x.h.length<=5/\(∀ n∈x.h,1<=n/\n<=9)/\jM x.h=true:=by
 simp only [dP,Bool.and_eq_true,aU,decide_eq_true_eq,List.all_eq_true] at h
 obtain ⟨⟨⟨⟨h1,h2⟩,h3⟩,h4⟩,h5,h6⟩:=h
 exact ⟨h1.1,h1.2,h2.1,h2.2,h3.1,h3.2,by omega,h5,h6⟩
theorem qH {o:Off} {x:Cs} (hx:x∈o.cs) (h:dP x=false):bN o=false:=by
 cases hh:bN o with
 | false=>rfl
 | true =>
  have:=(bT hh).2.2.2.2.2.2.2.2.2 x hx
  rw [h] at this; cases this
theorem dK {o:Off} (h:bN o=true):o.ok0:=by
 obtain ⟨_,_,h3,_,_,_,_,h8,h9,h10⟩:=bT h
 refine ⟨⟨by omega,fun x hx=>?_⟩,by omega,fun s hs=>by have:=h9 s hs; omega⟩
 have:=(cG (h10 x hx)).2.2.2.2.2.2.1
 unfold Cs.ok0; omega
theorem aH6 {o:Off} (h:o.day < 0\/20000 < o.day):bN o=false:=by
 cases hh:bN o with
 | false=>rfl
 | true =>
  have:=bT hh
  omega
theorem aHT (v:Int) (h:List Int):v∈gA v h:=by simp [gA]
theorem aC2 (x:Cs) (xs:List Cs):x∈eC x xs:=by simp [eC]
theorem aCt {α:Type} {xs:List α} {i:Nat} {x y:α} (h:xs[i]?=some x):y∈xs.set i y:=by
 have:=aK h
 exact List.mem_of_getElem? (i:=i) (by rw [List.getElem?_set]; simp [this])
theorem jR {o:Off} (h:bN o=false):(some o).filter bN=none:=by
 simp [Option.filter,h]
theorem uC {x:Cs} (h:x.d < 0\/20000 < x.d):dP x=false:=by
 cases hh:dP x with
 | false=>rfl
 | true=>have:=cG hh; omega
theorem aB6 {x:Cs} (h:x.i < 1\/999 < x.i):dP x=false:=by
 cases hh:dP x with
 | false=>rfl
 | true=>have:=cG hh; omega
theorem aCb {x:Cs} (h:x.a < 1\/3 < x.a):dP x=false:=by
 cases hh:dP x with
 | false=>rfl
 | true=>have:=cG hh; omega
theorem aB7 {x:Cs} {v:Int} (hv:v∈x.h) (h:v < 1\/9 < v):dP x=false:=by
 cases hh:dP x with
 | false=>rfl
 | true=>have:=(cG hh).2.2.2.2.2.2.2.1 v hv; omega
theorem aHh {o:Off} {v:Int} (h:bN o=true) (hv:v < 1\/9 < v):pE v o.cs=false:=by
 cases hh:pE v o.cs with
 | false=>rfl
 | true =>
  obtain ⟨x,hx,hc⟩:=List.any_eq_true.1 hh
  have:=(cG ((bT h).2.2.2.2.2.2.2.2.2 x hx)).2.2.2.2.2.2.2.1 v (List.contains_iff_mem.1 hc)
  omega
theorem iE {n a b:Int} (h1:a<=n) (h2:n<=b):aU n a b=true:=by simp [aU,h1,h2]
theorem aAO (o:Off) (k id a v:Int):vB o k id a v=d6 o k id a v:=by
 unfold vB d6
 cases ho:bN o with
 | false=>simp
 | true =>
  have hp:=bT ho
  simp only [Bool.true_and]
  unfold nL d4 wT iG
  by_cases k1:k=1
  ·subst k1
   simp only [if_true,show ¬ (1:Int)=2 by decide,if_false]
   by_cases ha:a=0
   ·by_cases hi:id=0/\1<=v
    ·have e1:(decide (id=0) && decide (a=0) && decide (1<=v))=true:=by simp [hi.1,ha,hi.2]
     rw [if_pos e1,if_neg (show ¬ a≠0 from fun h=>h ha),if_pos hi]
     by_cases hv:v > 20000 - o.day
     ·rw [if_pos hv]
      split
      ·rw [jR (aH6 (.inr (by simp only; omega)))]; rfl
      ·rfl
     ·rw [if_neg hv,if_pos (iE (by omega) (by omega))]
    ·have e1:¬ (decide (id=0) && decide (a=0) && decide (1<=v))=true:=by
      simp only [Bool.and_eq_true,decide_eq_true_eq]
      intro h; exact hi ⟨h.1.1,h.2⟩
     rw [if_neg e1,if_neg (show ¬ a≠0 from fun h=>h ha),if_neg hi]
     simp
   ·have e1:¬ (decide (id=0) && decide (a=0) && decide (1<=v))=true:=by simp [ha]
    rw [if_neg e1,if_pos ha]
    simp
  ·by_cases k2:k=2
   ·subst k2
    simp only [if_true,show ¬ (2:Int)=1 by decide,if_false]
    by_cases hf:0<=d9 o.cs id
    ·rw [if_pos hf,if_neg (by simp only [Bool.and_eq_true,decide_eq_true_eq]; omega)]
     simp
    ·rw [if_neg hf]
     have hm:=aC2 ⟨id,a,o.day + v,[]⟩ o.cs
     by_cases hs:(aU id 1 999 && decide (d9 o.cs id < 0) && aU a 1 3 && decide (0<=v))=true
     ·rw [if_pos hs]
      simp only [Bool.and_eq_true,decide_eq_true_eq] at hs
      by_cases hv:v > 20000 - o.day
      ·rw [if_pos hv]
       split
       ·rw [jR (qH hm (uC (.inr (by simp only; omega))))]; rfl
       ·rfl
      ·rw [if_neg hv,if_pos (iE (by omega) (by omega))]
     ·rw [if_neg hs]
      split
      ·rename_i hw
       have hw:=gX.1 hw
       rw [jR]
       simp only [Bool.and_eq_true,decide_eq_true_eq,gX] at hs
       by_cases q1:1<=id/\id<=999
       ·exact qH hm (aCb (by simp only; omega))
       ·exact qH hm (aB6 (by simp only; omega))
      ·rfl
   ·rw [if_neg k1,if_neg k1,if_neg k2,if_neg k2,if_neg k2,if_neg k1]
    by_cases ha:a=0
    case neg =>
     rw [if_pos ha,if_neg]
     ·simp
     ·split
      ·simp [ha]
      ·split
       ·simp [ha]
       ·split<;>simp [ha]
    rw [if_neg (show ¬ a≠0 from fun h=>h ha)]
    by_cases k4:k=4
    ·subst k4
     simp only [if_true,show ¬ (4:Int)=3 by decide,if_false]
     by_cases hi:id=0
     ·by_cases hv:1<=v/\v<=9
      ·have e1:(decide (id=0) && decide (a=0) && aU v 1 9)=true:=by
        simp only [Bool.and_eq_true,decide_eq_true_eq,gX]; exact ⟨⟨hi,ha⟩,hv⟩
       rw [if_pos e1,if_pos (iE (by omega) (by omega))]
       cases hh:pE v o.cs with
       | true=>rw [if_pos rfl,if_pos ⟨hi,rfl⟩]
       | false=>rw [if_neg (by decide),if_neg (show ¬ (id=0/\false=true) from fun h=>by cases h.2)]
      ·have e1:¬ (decide (id=0) && decide (a=0) && aU v 1 9)=true:=by
        simp only [Bool.and_eq_true,decide_eq_true_eq,gX]; exact fun h=>hv h.2
       rw [if_neg e1,aHh ho (by omega),if_neg (show ¬ (id=0/\false=true) from fun h=>by cases h.2)]
       simp
     ·have e1:¬ (decide (id=0) && decide (a=0) && aU v 1 9)=true:=by simp [hi]
      rw [if_neg e1,if_neg (show ¬ (id=0/\pE v o.cs=true) from fun h=>hi h.1)]
      simp
    ·rw [if_neg k4,if_neg k4,if_neg k4]
     by_cases hf:0<=d9 o.cs id
     case neg =>
      rw [if_neg hf,if_neg]
      ·simp
      ·split
       ·simp [hf]
       ·split<;>simp [hf]
     rw [if_pos hf]
     rcases lC o.cs id with ⟨_,hn⟩|⟨i,x,hi,hr,_⟩
     ·exact absurd hf (of_decide_eq_false hn)
     have hxc:=cG (hp.2.2.2.2.2.2.2.2.2 x (List.mem_of_getElem? hr))
     rw [hi,Int.toNat_natCast,hr]
     simp only
     have hi0:(0:Int)<=(i:Int):=by omega
     by_cases k3:k=3
     ·subst k3
      simp only [if_true]
      by_cases hv:1<=v/\v<=9
      ·have e1:(decide (0<=(i:Int)) && decide (a=0) && aU v 1 9)=true:=by
        simp only [Bool.and_eq_true,decide_eq_true_eq,gX]; exact ⟨⟨hi0,ha⟩,hv⟩
       rw [if_pos e1,if_pos (iE (by omega) (by omega))]
      ·have e1:¬ (decide (0<=(i:Int)) && decide (a=0) && aU v 1 9)=true:=by
        simp only [Bool.and_eq_true,decide_eq_true_eq,gX]; exact fun h=>hv h.2
       rw [if_neg e1]
       split
       ·split
        ·rfl
        ·rw [jR (qH (x:={ x with h:=gA v x.h }) (aCt hr) (aB7 (aHT v x.h) (by omega)))]
       ·rfl
     ·rw [if_neg k3,if_neg k3,if_neg k3]
      by_cases k5:k=5
      ·subst k5
       simp only [if_true]
       by_cases hv:1<=v
       ·have e1:(decide (0<=(i:Int)) && decide (a=0) && decide (1<=v))=true:=by
         simp only [Bool.and_eq_true,decide_eq_true_eq]; exact ⟨⟨hi0,ha⟩,hv⟩
        rw [if_pos e1,if_pos hv]
        by_cases hv2:v > 20000 - x.d
        ·rw [if_pos hv2]
         split
         ·rw [jR (qH (x:={ x with d:=x.d + v }) (aCt hr) (uC (.inr (by simp only; omega))))]; rfl
         ·rfl
        ·rw [if_neg hv2,if_pos (iE (by omega) (by omega))]
       ·have e1:¬ (decide (0<=(i:Int)) && decide (a=0) && decide (1<=v))=true:=by
         simp only [Bool.and_eq_true,decide_eq_true_eq]; exact fun h=>hv h.2
        rw [if_neg e1,if_neg hv]
        simp
      ·rw [if_neg k5,if_neg k5,if_neg k5]
       by_cases k6:k=6
       ·rw [if_pos k6]
        by_cases hv:v=0
        ·have e1:(decide (k=6) && decide (0<=(i:Int)) && decide (a=0) && decide (v=0))=true:=by
          simp only [Bool.and_eq_true,decide_eq_true_eq]; exact ⟨⟨⟨k6,hi0⟩,ha⟩,hv⟩
         rw [if_pos e1,if_pos (iE (by omega) (by omega))]
         cases hd:bP o x with
         | true=>rw [if_pos rfl,if_pos ⟨hv,rfl⟩]
         | false=>rw [if_neg (by decide),if_neg (show ¬ (v=0/\false=true) from fun h=>by cases h.2)]
        ·have e1:¬ (decide (k=6) && decide (0<=(i:Int)) && decide (a=0) && decide (v=0))=true:=by
          simp only [Bool.and_eq_true,decide_eq_true_eq]; exact fun h=>hv h.2
         rw [if_neg e1,if_neg (show ¬ (v=0/\bP o x=true) from fun h=>hv h.1)]
         simp
       ·have e1:¬ (decide (k=6) && decide (0<=(i:Int)) && decide (a=0) && decide (v=0))=true:=by
         simp only [Bool.and_eq_true,decide_eq_true_eq]; exact fun h=>k6 h.1.1.1
        rw [if_neg e1,if_neg k6]
        simp
end Go.Pe.Tryz
set_option maxRecDepth 100000
set_option maxHeartbeats 4000000
set_option linter.all false
namespace Go.Pe.Tryz
open Nat (reduceEqDiff reduceAdd reduceSub reduceLT)
open Go.Proofs.Tryz Go.Sort
structure Digs (k:Int) (p:Int×List UInt8):Prop where
 lo:0<=p.1
 hi:p.1<=k
 len:p.2.length<=21
 eq:Lib.decDigits k.toNat=if p.1=0 then p.2 else Lib.decDigits p.1.toNat ++ p.2
theorem Digs.next {k:Int} {p:Int×List UInt8} (hk:k<=100000000000000) (h:Digs k p) (hp:0 < p.1):Digs k (p.1 / 10,UInt8.ofNat (48 + (p.1 % 10).toNat) :: p.2):=by
 obtain ⟨n,s⟩:=p
 have h0:(0:Int) < n:=hp
 obtain ⟨m,rfl⟩:=Int.eq_ofNat_of_zero_le (show (0:Int)<=n by omega)
 have he:=h.eq
 have hh:=h.hi
 simp only at he hh ⊢
 rw [if_neg (by omega),Int.toNat_natCast] at he
 have hmd:((m:Int) % 10).toNat=m % 10:=by omega
 have hdv:((m:Int) / 10).toNat=m / 10:=by omega
 have key:Lib.decDigits k.toNat=if (m:Int) / 10=0 then UInt8.ofNat (48 + m % 10) :: s else Lib.decDigits (m / 10) ++ UInt8.ofNat (48 + m % 10) :: s:=by
  rw [he]
  by_cases h10:m < 10
  ·rw [nH h10,if_pos (by omega),show m % 10=m by omega]; rfl
  ·rw [nZ h10,if_neg (by omega)]; simp
 have hl:=qJ k.toNat (by omega)
 refine ⟨by show (0:Int)<=(m:Int) / 10; omega,by show (m:Int) / 10<=k; omega,?_,by simp only [hmd,hdv]; exact key⟩
 rw [key] at hl
 simp only [hmd]
 split at hl
 ·exact hl
 ·rw [List.length_append] at hl; omega
theorem Digs.done {k:Int} {p:Int×List UInt8} (h:Digs k p) (hp:¬ 0 < p.1):Lib.decDigits k.toNat=p.2:=by
 have:=h.lo
 rw [h.eq,if_pos (by omega)]
end Go.Pe.Tryz
set_option maxRecDepth 100000
set_option maxHeartbeats 4000000
set_option linter.all false
namespace Go.Pe.Tryz
open Nat (reduceEqDiff reduceAdd reduceSub reduceLT)
open Go.Proofs.Tryz
theorem gW {x:Cs} {dh:D} {k:Int}:gG [2] (x.p dh) (.int .i64 k)=Cs.p { x with d:=k } dh:=rfl
theorem b9 {x:Cs} {dh u:D}:gG [3] (x.p dh) u=x.p u:=rfl
theorem o9 {x:Cs} {dh:D}:dG [0] (x.p dh)=0:=rfl
theorem gS {x:Cs} {dh:D}:dG [2] (x.p dh)=2:=rfl
theorem dF {x:Cs} {dh:D}:dG [3] (x.p dh)=3:=rfl
theorem oW {x:Cs} {dh:D}:fC [0] (x.p dh)=some (.int .i64 x.i):=rfl
theorem gU {x:Cs} {dh:D}:fC [2] (x.p dh)=some (.int .i64 x.d):=rfl
theorem cA {x:Cs} {dh:D}:fC [3] (x.p dh)=some dh:=rfl
theorem xI {xs:List Cs} {i:Nat} {x:Cs} (hr:xs[i]?=some x):xs.drop i=x :: xs.drop (i + 1):=by
 have hi:=aK hr
 rw [List.drop_eq_getElem_cons hi]
 rw [List.getElem?_eq_getElem hi] at hr
 injection hr with hr
 rw [hr]
end Go.Pe.Tryz
set_option maxRecDepth 100000
set_option maxHeartbeats 4000000
set_option linter.all false
namespace Go.Pe.Tryz
open Nat (reduceEqDiff reduceAdd reduceSub reduceLT)
open Go.Proofs.Tryz
theorem aDZ (xs:List Cs) (hlen:xs.length<=1048576):Fn prog 68 [.sl false 4 (dl Cs.s xs)] (fun rs=>rs=[.sl true 4 (dl Cs.s xs)]):=by
 refine a8 (fn:=f68) (by exact func68) c68 r68 (n:=8) (by rfl) (rv:=[.tmp 2]) (by rfl) (by simp) ?_
 unfold m68
 try simp only [wQ]
 simp only [↓wA,↓wC,wB,aF,aE,reduceEqDiff,reduceAdd,reduceSub,reduceIte,reduceCtorEq,Nat.reduceBEq,reduceLT,aP]
 refine aBu (fun h=>?_) ?_
 ·rw [aJ] at h
  have e:xs=[]:=List.length_eq_zero_iff.1 h
  subst e
  simp only [↓wA,↓wC,wB,aF,aE,reduceEqDiff,reduceAdd,reduceSub,reduceIte,reduceCtorEq,Nat.reduceBEq,reduceLT,aP]
  refine oB 4 ?_
  rfl
 ·simp only [aJ,↓wA,↓wC,wB,aF,aE,reduceEqDiff,reduceAdd,reduceSub,reduceIte,reduceCtorEq,Nat.reduceBEq,reduceLT,aP]
  refine aQ ⟨by omega,by omega⟩ ?_
  simp only [↓wA,↓wC,wB,aF,aE,reduceEqDiff,reduceAdd,reduceSub,reduceIte,reduceCtorEq,Nat.reduceBEq,reduceLT,aP]
theorem aDi (L:List (List UInt8)) (hlen:L.length<=1048576):Fn prog 70 [.sl false 1 (dl D.str L)] (fun rs=>rs=[.sl true 1 (dl D.str L)]):=by
 refine a8 (fn:=f70) (by exact func70) c70 r70 (n:=8) (by rfl) (rv:=[.tmp 2]) (by rfl) (by simp) ?_
 unfold m70
 try simp only [wQ]
 simp only [↓wA,↓wC,wB,aF,aE,reduceEqDiff,reduceAdd,reduceSub,reduceIte,reduceCtorEq,Nat.reduceBEq,reduceLT,aP]
 refine aBu (fun h=>?_) ?_
 ·rw [aJ] at h
  have e:L=[]:=List.length_eq_zero_iff.1 h
  subst e
  simp only [↓wA,↓wC,wB,aF,aE,reduceEqDiff,reduceAdd,reduceSub,reduceIte,reduceCtorEq,Nat.reduceBEq,reduceLT,aP]
  refine oB 1 ?_
  rfl
 ·simp only [aJ,↓wA,↓wC,wB,aF,aE,reduceEqDiff,reduceAdd,reduceSub,reduceIte,reduceCtorEq,Nat.reduceBEq,reduceLT,aP]
  refine aQ ⟨by omega,by omega⟩ ?_
  simp only [↓wA,↓wC,wB,aF,aE,reduceEqDiff,reduceAdd,reduceSub,reduceIte,reduceCtorEq,Nat.reduceBEq,reduceLT,aP]
def cm (p:Bool×Cs):D:=if p.1 then p.2.o else p.2.s
def rD (xs:List Cs) (i:Nat):List (Bool×Cs):=(xs.take i).map (fun x=>(true,x)) ++ (xs.drop i).map (fun x=>(false,x))
theorem aFQ (xs:List Cs) (i:Nat):(rD xs i).length=xs.length:=by simp [rD]; omega
theorem aFg {xs:List Cs} {i:Nat} {x:Cs} (hr:xs[i]?=some x):(rD xs i)[i]?=some (false,x):=by
 have hi:=aK hr
 rw [rD,List.getElem?_append_right (by simp; omega),List.length_map,List.length_take,Nat.min_eq_left (by omega),Nat.sub_self,List.getElem?_map,List.getElem?_drop]
 simp [hr]
theorem aFk {xs:List Cs} {i:Nat} {x:Cs} (hr:xs[i]?=some x):(rD xs i).set i (true,x)=rD xs (i + 1):=by
 have hi:=aK hr
 rw [rD,List.set_append_right _ _ (by simp; omega),List.length_map,List.length_take,Nat.min_eq_left (by omega),Nat.sub_self,xI hr,List.map_cons,List.set_cons_zero,rD,fX hr]
 simp
theorem aJ5 (xs:List Cs):dl cm (rD xs 0)=dl Cs.s xs:=by
 simp only [rD,List.take_zero,List.map_nil,List.nil_append,List.drop_zero,dl,List.map_map]
 rfl
theorem aJl (xs:List Cs):dl cm (rD xs xs.length)=dl Cs.o xs:=by
 simp only [rD,List.take_length,List.drop_length,List.map_nil,List.append_nil,dl,List.map_map]
 rfl
theorem pL (o:Off) (ho:o.ok0):Fn prog 38 [o.s] (fun rs=>rs=[o.o]):=by
 have hC:=aDZ o.cs ho.1.1
 have hT:=aDi o.led ho.2.1
 have hlen:=ho.1.1
 refine dL (ps:=[[1,1,0,0],[1,1,1,0]]) (fn:=f38) (by exact func38) c38 r38 (n:=32) (by rfl) (rv:=[.cell 2 27]) (by rfl) (by simp) ?_
 unfold m38
 try simp only [wQ]
 simp only [cI,dD]
 simp only [Off.s,bD]
 repeat' (first|(simp only [aM,aL,aD,↓wA,↓wC,wB,aF,aE,reduceEqDiff,reduceAdd,reduceSub,reduceIte,reduceCtorEq,Nat.reduceBEq,reduceLT,aP])|(refine aG hC rfl rfl ?_)|((first|apply aB|apply aC|apply aA)<;>intro h<;>try simp only [h]))
 refine cB _ (cU 0 none [1] (es:=4) (xs:=dl Cs.s o.cs) rfl rfl) fun v1=>?_
 simp only [bR,aM,aL,aD,aJ,↓wA,↓wC,wB,aF,aE,reduceEqDiff,reduceAdd,reduceSub,reduceIte,reduceCtorEq,Nat.reduceBEq,reduceLT,aP]
 refine bL o.cs.length (fun i:Nat=>⟨[(1,.ptr 0 0 []),(2,.ptr 1 0 []),(10,.d (.int .i64 o.cs.length)),(11,.d (.int .i64 i))],[.box (bD o (.lnk 4 v1) (.sl false 1 (dl D.str o.led))),.box (.st (.cons (.int .i64 0) (.cons (.sl true 4 .nil) (.cons (.int .i64 0) (.cons (.int .i64 0) (.cons (.sl true 1 .nil) .nil)))))),.dead,.val (.sl true 4 (dl cm (rD o.cs i))),.tag 3 v1]⟩) (fun _=>True) ?_ trivial ?_ ?_
 ·rw [aJ5]; exact (aN _ rfl ⟨⟨rfl,rfl⟩,⟨rfl,rfl⟩,⟨rfl,rfl⟩,⟨rfl,rfl⟩,trivial⟩)
 ·intro i hlt _ hd h0
  obtain ⟨x,hr⟩:=bM hlt
  have h1:=aDU x.h (ho.1.2 x (List.mem_of_getElem? hr))
  have hg:=aFg hr
  have hcm:cm (false,x)=x.p (.sl false 1 (dl iD x.h)):=rfl
  have hgs:∀ (y:D),((dl cm (rD o.cs i)).setN i y).nth i=some y:=fun y=>by rw [kQ,if_pos rfl,aX,hg]; rfl
  simp only [bD]
  repeat' (first|(simp only [aJ,aFQ,hd,h0,aX,Int.toNat_natCast,hg,hcm,hgs,cD,Option.map_some,aD,aS,dF,cA,b9,↓wA,↓wC,wB,aF,aE,reduceEqDiff,reduceAdd,reduceSub,reduceIte,reduceCtorEq,Nat.reduceBEq,reduceLT,aP])|(refine bO ?_)|(refine aG h1 rfl rfl ?_)|(refine aI (by simp only [bQ]; omega) ?_)|((first|apply aB|apply aC|apply aA)<;>intro h<;>try simp only [h]))
  have e:x.p (.sl true 1 (dl iD x.h))=cm (true,x):=rfl
  rw [e,gD,aFk hr]
  exact ⟨i + 1,(aN _ rfl ⟨⟨rfl,rfl⟩,⟨rfl,rfl⟩,⟨rfl,rfl⟩,⟨rfl,rfl⟩,trivial⟩),by omega,by omega⟩
 ·intro _ hd
  rw [aJl]
  simp only [bD]
  repeat' (first|(simp only [aJ,hd,aD,↓wA,↓wC,wB,aF,aE,reduceEqDiff,reduceAdd,reduceSub,reduceIte,reduceCtorEq,Nat.reduceBEq,reduceLT,aP])|((first|apply aB|apply aC|apply aA)<;>intro h<;>try simp only [h]))
  refine aR (fV 0 4 3 none [1] rfl rfl rfl rfl (by decide) rfl) ?_
  simp only [bR,↓wA,↓wC,wB,aF,aE,reduceEqDiff,reduceAdd,reduceSub,reduceIte,reduceCtorEq,Nat.reduceBEq,reduceLT,aP]
  repeat' (first|(simp only [aL,aD,↓wA,↓wC,wB,aF,aE,reduceEqDiff,reduceAdd,reduceSub,reduceIte,reduceCtorEq,Nat.reduceBEq,reduceLT,aP])|(refine aG hT rfl rfl ?_)|((first|apply aB|apply aC|apply aA)<;>intro h<;>try simp only [h]))
  all_goals exact aQ rfl rfl
end Go.Pe.Tryz
set_option maxRecDepth 100000
set_option maxHeartbeats 4000000
set_option linter.all false
namespace Go.Pe.Tryz
open Nat (reduceEqDiff reduceAdd reduceSub reduceLT)
open Go.Proofs.Tryz
theorem aCw {v:List Int} (h:jM v=true):x1 v:=fun j a b ha hb=>by
 have:=(lW v).1 h j (aK hb)
 rw [List.getD_eq_getElem?_getD,List.getD_eq_getElem?_getD,ha,hb] at this
 simpa using this
theorem zL {v:List Int} (h:x1 v):v.Nodup:=by
 rw [List.Nodup,List.pairwise_iff_getElem]
 intro i j hi hj hij
 have:=uA h j i v[i] v[j] hij (List.getElem?_eq_getElem hi) (List.getElem?_eq_getElem hj)
 omega
theorem uV {v:Int}:∀ (h:List Int) (k:Nat),h.Nodup->h[k]?=some v->h.take k ++ h.drop (k + 1)=h.filter (fun n=>!decide (n=v))
 | [],k,_,hk=>by simp at hk
 | a :: t,0,hn,hk=>by
  simp only [List.getElem?_cons_zero,Option.some.injEq] at hk
  subst hk
  obtain ⟨h1,h2⟩:=List.nodup_cons.1 hn
  have:t.filter (fun n=>!decide (n=a))=t:=by
   rw [List.filter_eq_self]
   intro x hx
   have:x≠a:=fun e=>h1 (e ▸ hx)
   simp [this]
  simp [this]
 | a :: t,k + 1,hn,hk=>by
  obtain ⟨h1,h2⟩:=List.nodup_cons.1 hn
  simp only [List.getElem?_cons_succ] at hk
  have ha:a≠v:=fun e=>h1 (e ▸ List.mem_of_getElem? hk)
  have ih:=uV t k h2 hk
  simp only [List.take_succ_cons,List.drop_succ_cons,List.cons_append,ih]
  simp [ha]
theorem aLR {v:Int} {h:List Int} (hn:h.contains v=false):h.filter (fun n=>!decide (n=v))=h:=by
 rw [List.filter_eq_self]
 intro x hx
 have:x≠v:=fun e=>by
  subst e
  rw [List.contains_iff_mem.2 hx] at hn
  cases hn
 simp [this]
theorem aGx {v:Int} {h:List Int}:decide (0<=fT (fun x=>decide (v=x)) h)=h.contains v:=by
 rw [pB,jU]
def mV (v:Int) (xs:List Cs) (i:Nat):List Cs:=(xs.take i).map (nN v) ++ xs.drop i
theorem iO (v:Int) (xs:List Cs) (i:Nat):(mV v xs i).length=xs.length:=by simp [mV]; omega
theorem aAn {v:Int} {xs:List Cs} {i:Nat} {x:Cs} (hr:xs[i]?=some x):(mV v xs i)[i]?=some x:=by
 have hi:=aK hr
 rw [mV,List.getElem?_append_right (by simp; omega),List.length_map,List.length_take,Nat.min_eq_left (by omega),Nat.sub_self,List.getElem?_drop]
 simpa using hr
theorem u5 {v:Int} {xs:List Cs} {i:Nat} {x:Cs} (hr:xs[i]?=some x):(mV v xs i).set i (nN v x)=mV v xs (i + 1):=by
 have hi:=aK hr
 rw [mV,List.set_append_right _ _ (by simp; omega),List.length_map,List.length_take,Nat.min_eq_left (by omega),Nat.sub_self,xI hr,List.set_cons_zero,mV,fX hr]
 simp
theorem xS {v:Int} {xs:List Cs} {i:Nat} {x:Cs} (hr:xs[i]?=some x):pE v (xs.take (i + 1))=(pE v (xs.take i) || x.h.contains v):=by
 rw [fX hr]
 simp [pE]
theorem aBt (o:Off) (v:Int) (ho:o.ok0) (hn:∀ x∈o.cs,x.h.Nodup):sO prog 72 true o.o [.int .i64 v] (fun x' rs=>x'=Off.o { o with cs:=o.cs.map (nN v) }/\rs=[.bool (pE v o.cs)]):=by
 have hlen:=ho.1.1
 refine kF (ps:=[[1,1,0,1,0,0,1,1,0,0,1,0],[1,1,0,1,0,0,1,1,1],[1,1,0,0],[1,1,1,0]]) (fn:=f72) (by exact func72) c72 r72 (n:=49) (by rfl) (rv:=[.tmp 4]) (by rfl) (by decide) (by simp) ?_
 unfold m72
 try simp only [wQ]
 simp only [cI,dD]
 simp only [Off.o,bD]
 repeat' (first|(simp only [aD,↓wA,↓wC,wB,aF,aE,reduceEqDiff,reduceAdd,reduceSub,reduceIte,reduceCtorEq,Nat.reduceBEq,reduceLT])|((first|apply aB|apply aC|apply aA)<;>intro h<;>try simp only [h]))
 refine cB _ (cU 0 none [1] (es:=4) (xs:=dl Cs.o o.cs) rfl rfl) fun v1=>?_
 simp only [bR,aD,aJ,↓wA,↓wC,wB,aF,aE,reduceEqDiff,reduceAdd,reduceSub,reduceIte,reduceCtorEq,Nat.reduceBEq,reduceLT]
 refine bL o.cs.length (fun i:Nat=>⟨[(0,.ptr 0 0 []),(1,.d (.int .i64 v)),(5,.d (.bool (pE v (o.cs.take i)))),(12,.d (.int .i64 o.cs.length)),(13,.d (.int .i64 i))],[.box (bD o (.lnk 2 v1) (.sl true 1 (dl D.str o.led))),.val (.sl true 4 (dl Cs.o (mV v o.cs i))),.tag 1 v1]⟩) (fun _=>True) ?_ trivial ?_ ?_
 ·exact (aN _ rfl ⟨⟨rfl,rfl⟩,⟨rfl,rfl⟩,⟨rfl,rfl⟩,⟨rfl,rfl⟩,⟨rfl,rfl⟩,trivial⟩)
 ·intro i hlt _ hd h0
  obtain ⟨x,hr⟩:=bM hlt
  have hg:=aAn (v:=v) hr
  have hxo:=ho.1.2 x (List.mem_of_getElem? hr)
  have hI:=x5 x.h v hxo
  have hI':Fn prog 90 [.sl false 1 (dl iD x.h).unown,.int .i64 v] (fun rs=>rs=[.int .i64 (fT (fun x=>decide (v=x)) x.h)]):=by rw [cH]; exact hI
  have hcm:Cs.o x=x.p (.sl true 1 (dl iD x.h)):=rfl
  have hgs:∀ (y:D),((dl Cs.o (mV v o.cs i)).setN i y).nth i=some y:=fun y=>by rw [kQ,if_pos rfl,aX,hg]; rfl
  have hgn:(dl Cs.o (mV v o.cs i)).nth i=some (x.p (.sl true 1 (dl iD x.h))):=by rw [aX,hg]; rfl
  have hx:=xS (v:=v) hr
  have hix:=aGx (v:=v) (h:=x.h)
  simp only [bD]
  repeat' (first|(simp only [aJ,iO,hd,h0,aD,↓wA,↓wC,wB,aF,aE,reduceEqDiff,reduceAdd,reduceSub,reduceIte,reduceCtorEq,Nat.reduceBEq,reduceLT])|((first|apply aB|apply aC|apply aA)<;>intro h<;>try simp only [h]))
  refine cB _ (cU 1 (some i) [3] (es:=1) (xs:=dl iD x.h) rfl (by simp only [fD,hgn,Option.bind_some,cA])) fun v2=>?_
  simp only [bR,hgn,Option.getD_some,b9,↓wA,↓wC,wB,aF,aE,reduceEqDiff,reduceAdd,reduceSub,reduceIte,reduceCtorEq,Nat.reduceBEq,reduceLT]
  by_cases hge:0<=fT (fun x=>decide (v=x)) x.h
  ·obtain ⟨k,r,hk,hkr,hkp⟩:=zM hge
   have hrv:v=r:=of_decide_eq_true hkp
   subst hrv
   rw [hk] at hI' hix
   have hc:x.h.contains v=true:=by rw [<- hix]; exact decide_eq_true (by omega)
   rw [hc] at hix hx
   have hD:=aB8 x.h k (k + 1) (by omega) (by have:=aK hkr; omega)
   rw [show ((k + 1:Nat):Int)=(k:Int) + 1 by omega] at hD
   have hkl:k<=1048576:=by
    have:=aK hkr
    unfold Cs.ok0 at hxo
    omega
   have hdf:=uV x.h k (hn x (List.mem_of_getElem? hr)) hkr
   repeat' (first|(simp only [aJ,iO,hd,h0,hix,hgn,hgs,cD,Int.toNat_natCast,Option.map_some,aD,dF,cA,b9,↓wA,↓wC,wB,aF,aE,reduceEqDiff,reduceAdd,reduceSub,reduceIte,reduceCtorEq,Nat.reduceBEq,reduceLT])|(refine aG (hI') rfl rfl ?_)|(refine aH (hI') rfl rfl ?_)|(refine bO ?_)|(with_reducible refine aI ?_ ?_; focus (simp only [bQ]; omega))|((first|apply aB|apply aC|apply aA)<;>intro h<;>try simp only [h]))
   refine cR (bx:=false) (r:=3) hD rfl rfl rfl ?_
   rintro _ _ ⟨⟨u,rfl⟩,rfl⟩
   repeat' (first|(simp only [aJ,iO,hd,h0,hix,hgn,hgs,cD,Int.toNat_natCast,Option.map_some,aD,dF,cA,b9,↓wA,↓wC,wB,aF,aE,reduceEqDiff,reduceAdd,reduceSub,reduceIte,reduceCtorEq,Nat.reduceBEq,reduceLT])|(with_reducible refine aI ?_ ?_; focus (simp only [bQ]; omega))|((first|apply aB|apply aC|apply aA)<;>intro h<;>try simp only [h]))
   refine aR (cT.refl _) ?_
   repeat' (first|(simp only [aD,↓wA,↓wC,wB,aF,aE,reduceEqDiff,reduceAdd,reduceSub,reduceIte,reduceCtorEq,Nat.reduceBEq,reduceLT])|(with_reducible refine aI ?_ ?_; focus (simp only [bQ]; omega))|((first|apply aB|apply aC|apply aA)<;>intro h<;>try simp only [h]))
   have e:x.p (.sl true 1 (dl iD (x.h.take k ++ x.h.drop (k + 1))))=Cs.o (nN v x):=by rw [hdf]; rfl
   rw [e,gD,u5 hr]
   refine ⟨i + 1,?_,by omega,by omega⟩
   rw [hx,Bool.or_true]
   exact (aN _ rfl ⟨⟨rfl,rfl⟩,⟨rfl,rfl⟩,⟨rfl,rfl⟩,⟨rfl,rfl⟩,⟨rfl,rfl⟩,trivial⟩)
  ·have hm:=aE0 hge
   rw [hm] at hI' hix
   have hc:x.h.contains v=false:=by rw [<- hix]; rfl
   rw [hc] at hix hx
   have hrx:nN v x=x:=by
    show ({ x with h:=_ }:Cs)=x
    rw [aLR hc]
   repeat' (first|(simp only [aJ,iO,hd,h0,hix,hgn,hgs,cD,Int.toNat_natCast,Option.map_some,aD,dF,cA,b9,↓wA,↓wC,wB,aF,aE,reduceEqDiff,reduceAdd,reduceSub,reduceIte,reduceCtorEq,Nat.reduceBEq,reduceLT])|(refine aG (hI') rfl rfl ?_)|(refine aH (hI') rfl rfl ?_)|(with_reducible refine aI ?_ ?_; focus (simp only [bQ]; omega))|((first|apply aB|apply aC|apply aA)<;>intro h<;>try simp only [h]))
   refine aR (fV 1 4 3 (some i) [3] rfl (by simp only [fD,hgs,Option.bind_some,cA]) rfl rfl (by decide) rfl) ?_
   simp only [bR,hgs,Option.getD_some,b9,cD,↓wA,↓wC,wB,aF,aE,reduceEqDiff,reduceAdd,reduceSub,reduceIte,reduceCtorEq,Nat.reduceBEq,reduceLT]
   repeat' (first|(simp only [aD,↓wA,↓wC,wB,aF,aE,reduceEqDiff,reduceAdd,reduceSub,reduceIte,reduceCtorEq,Nat.reduceBEq,reduceLT])|(with_reducible refine aI ?_ ?_; focus (simp only [bQ]; omega))|((first|apply aB|apply aC|apply aA)<;>intro h<;>try simp only [h]))
   have e:x.p (.sl true 1 (dl iD x.h))=Cs.o (nN v x):=by rw [hrx]; rfl
   rw [e,gD,u5 hr]
   refine ⟨i + 1,?_,by omega,by omega⟩
   rw [hx,Bool.or_false]
   exact (aN _ rfl ⟨⟨rfl,rfl⟩,⟨rfl,rfl⟩,⟨rfl,rfl⟩,⟨rfl,rfl⟩,⟨rfl,rfl⟩,trivial⟩)
 ·intro _ hd
  have er:mV v o.cs o.cs.length=o.cs.map (nN v):=by simp [mV]
  rw [er,List.take_length]
  simp only [bD]
  repeat' (first|(simp only [aJ,hd,aD,↓wA,↓wC,wB,aF,aE,reduceEqDiff,reduceAdd,reduceSub,reduceIte,reduceCtorEq,Nat.reduceBEq,reduceLT])|((first|apply aB|apply aC|apply aA)<;>intro h<;>try simp only [h]))
  refine aR (fV 0 2 1 none [1] rfl rfl rfl rfl (by decide) rfl) ?_
  simp only [bR,↓wA,↓wC,wB,aF,aE,reduceEqDiff,reduceAdd,reduceSub,reduceIte,reduceCtorEq,Nat.reduceBEq,reduceLT]
  repeat' (first|(simp only [aD,↓wA,↓wC,wB,aF,aE,reduceEqDiff,reduceAdd,reduceSub,reduceIte,reduceCtorEq,Nat.reduceBEq,reduceLT])|((first|apply aB|apply aC|apply aA)<;>intro h<;>try simp only [h]))
  all_goals exact ⟨rfl,rfl⟩
end Go.Pe.Tryz
set_option maxRecDepth 100000
set_option maxHeartbeats 4000000
set_option linter.all false
namespace Go.Pe.Tryz
open Nat (reduceEqDiff reduceAdd reduceSub reduceLT)
open Go.Proofs.Tryz
def tL (xs:List Cs):List (Bool×Cs):=xs.map fun x=>(true,x)
theorem aHJ (xs:List Cs):dl cm (tL xs)=dl Cs.o xs:=by
 simp only [dl,tL,List.map_map]; rfl
theorem aFY {xs:List Cs} {i:Nat} {x:Cs} (hr:xs[i]?=some x):(tL xs)[i]?=some (true,x):=by simp [tL,hr]
theorem aFI {xs:List Cs} {i:Nat} {p:Bool×Cs} (hi:i < xs.length):(((tL xs).set i p).map cm).take i ++ (((tL xs).set i p).map cm).drop (i + 1)=(xs.eraseIdx i).map Cs.o:=by
 rw [<- List.map_take,<-List.map_drop,List.take_set_of_le (Nat.le_refl _),List.drop_set_of_lt (by omega),<-List.map_append]
 unfold tL
 rw [<- List.map_take,<-List.map_drop,<-List.map_append,List.map_map,List.eraseIdx_eq_take_drop_succ]
 rfl
theorem aHQ (xs:List (Bool×Cs)):∀ d∈xs.map cm,d.size=4:=fun d hd=>by
 obtain ⟨⟨b,x⟩,_,rfl⟩:=List.mem_map.1 hd
 cases b<;>rfl
theorem aEP (L:List (List UInt8)) (s:List UInt8):(dl D.str L).app (D.cons (.str s) .nil)=dl D.str (L ++ [s]):=eZ (f:=D.str) L s
theorem aFF (a b:List UInt8):([114] ++ a) ++ [32,100] ++ b=114 :: (a ++ 32 :: 100 :: b):=by simp
theorem aHp (o:Off) (i:Nat) (x:Cs) (ho:bN o=true) (hr:o.cs[i]?=some x):sO prog 104 true o.o [.int .i64 i] (fun x' rs=>rs=[.bool (bP o x)]/\(bP o x=true->x'=(fU o i x).o)):=by
 have hp:=bT ho
 have hx:=cG (hp.2.2.2.2.2.2.2.2.2 x (List.mem_of_getElem? hr))
 have hil:=aK hr
 have hi0:(0:Int)<=(i:Int):=by omega
 have hgA:=aFY hr
 have hgn:(dl Cs.o o.cs).nth i=some (x.p (.sl true 1 (dl iD x.h))):=by rw [aX,hr]; rfl
 have hcmf:cm (false,x)=x.p (.sl false 1 (dl iD x.h)):=rfl
 have hset:(dl Cs.o o.cs).setN i (x.p (.sl false 1 (dl iD x.h)))=dl cm ((tL o.cs).set i (false,x)):=by
  rw [<- aHJ,<-hcmf,gD]
 have hgF:((tL o.cs).set i (false,x))[i]?=some (false,x):=by
  rw [List.getElem?_set,if_pos rfl,if_pos (aK hgA)]
 have hxs:x.p (.sl false 1 (dl iD x.h))=x.s:=rfl
 have hD:=aCo (((tL o.cs).set i (false,x)).map cm) (aHQ _) i (i + 1) (by omega) (by simp [tL]; omega)
 rw [aFI hil,show ((i + 1:Nat):Int)=(i:Int) + 1 by omega] at hD
 have hD:sO prog 120 false (.sl true 4 (dl cm ((tL o.cs).set i (false,x)))) [.int .i64 i,.int .i64 ((i:Int) + 1)] (fun x' rs=>(∃ u,x'=.lnk 0 u)/\rs=[.sl true 4 (dl Cs.o (o.cs.eraseIdx i))]):=hD
 refine kF (ps:=[[1,1,1,0,1,0,1,1,1,1,1],[1,0],[1,0]]) (fn:=f104) (by exact func104) aMm aNL (n:=75) (by rfl) (rv:=[.tmp 4]) (by rfl) (by decide) (by simp) ?_
 unfold aKo
 try simp only [wQ]
 simp only [cI,dD]
 simp only [Off.o,bD]
 repeat' (first|(simp only [aD,↓wA,↓wC,wB,aF,aE,reduceEqDiff,reduceAdd,reduceSub,reduceIte,reduceCtorEq,Nat.reduceBEq,reduceLT])|((first|apply aB|apply aC|apply aA)<;>intro h<;>try simp only [h]))
 refine cB _ (cU 0 none [1] (es:=4) (xs:=dl Cs.o o.cs) rfl rfl) fun v1=>?_
 simp only [bR,↓wA,↓wC,wB,aF,aE,reduceEqDiff,reduceAdd,reduceSub,reduceIte,reduceCtorEq,Nat.reduceBEq,reduceLT]
 refine aR (freeze 1 (some i) [3] (x:=.sl true 1 (dl iD x.h)) rfl (by simp only [fD,hgn,Option.bind_some,cA]) rfl) ?_
 simp only [bR,hgn,Option.getD_some,b9,D.unown,cH,hset,↓wA,↓wC,wB,aF,aE,reduceEqDiff,reduceAdd,reduceSub,reduceIte,reduceCtorEq,Nat.reduceBEq,reduceLT]
 have hdl:(1:Int)<=o.cs.length:=by omega
 cases h1:decide (o.day < x.d) with
 | true =>
  have hB:bP o x=false:=by
   have:=of_decide_eq_true h1
   unfold bP
   rw [decide_eq_false (by omega)]; rfl
  repeat' (first|(simp only [aX,hi0,hgF,hcmf,Int.toNat_natCast,Option.map_some,aD,aS,hxs,↓fS,Cs.s_isV,Cs.s_size,eW,eV,jK,jI,iQ,iU,gE,fZ,aJ,h1,↓wA,↓wC,wB,aF,aE,reduceEqDiff,reduceAdd,reduceSub,reduceIte,reduceCtorEq,Nat.reduceBEq,reduceLT])|((first|apply aB|apply aC|apply aA)<;>intro h<;>try simp only [h]))
  all_goals exact ⟨by rw [hB],fun h=>by rw [hB] at h; cases h⟩
 | false =>
  have h1':=of_decide_eq_false h1
  have h0:decide (x.d<=o.day)=true:=decide_eq_true (by omega)
  cases h2:decide (x.a=1) with
  | true =>
   have h2':=of_decide_eq_true h2
   have hB:bP o x=true:=by unfold bP; rw [h0,h2]; rfl
   have hO:(fU o i x).o=bD { o with kept:=o.kept + 1 } (.sl true 4 (dl Cs.o (o.cs.eraseIdx i))) (.sl true 1 (dl D.str o.led)):=by
    unfold fU; rw [if_pos h2']; rfl
   repeat' (first|(simp only [aX,hi0,hgF,hcmf,Int.toNat_natCast,Option.map_some,aD,aS,hxs,↓fS,Cs.s_isV,Cs.s_size,eW,eV,jK,jI,iQ,iU,gE,fZ,aJ,h1,h2,↓wA,↓wC,wB,aF,aE,reduceEqDiff,reduceAdd,reduceSub,reduceIte,reduceCtorEq,Nat.reduceBEq,reduceLT])|(with_reducible refine aI ?_ ?_; focus (simp only [bQ]; omega))|((first|apply aB|apply aC|apply aA)<;>intro h<;>try simp only [h]))
   refine cR (bx:=false) (r:=1) hD rfl rfl rfl ?_
   rintro _ _ ⟨⟨u,rfl⟩,rfl⟩
   repeat' (first|(simp only [aX,hi0,hgF,hcmf,Int.toNat_natCast,Option.map_some,aD,aS,hxs,↓fS,Cs.s_isV,Cs.s_size,eW,eV,jK,jI,iQ,iU,gE,fZ,aJ,↓wA,↓wC,wB,aF,aE,reduceEqDiff,reduceAdd,reduceSub,reduceIte,reduceCtorEq,Nat.reduceBEq,reduceLT])|((first|apply aB|apply aC|apply aA)<;>intro h<;>try simp only [h]))
   all_goals exact ⟨by rw [hB],fun _=>hO.symm⟩
  | false =>
   have h2':=of_decide_eq_false h2
   cases h3:decide (x.a=2) with
   | true =>
    have h3':=of_decide_eq_true h3
    have hB:bP o x=true:=by unfold bP; rw [h0,h2,h3]; rfl
    have hO:(fU o i x).o=bD { o with moved:=o.moved + 1 } (.sl true 4 (dl Cs.o (o.cs.eraseIdx i))) (.sl true 1 (dl D.str o.led)):=by
     unfold fU; rw [if_neg h2',if_pos h3']; rfl
    repeat' (first|(simp only [aX,hi0,hgF,hcmf,Int.toNat_natCast,Option.map_some,aD,aS,hxs,↓fS,Cs.s_isV,Cs.s_size,eW,eV,jK,jI,iQ,iU,gE,fZ,aJ,h1,h2,h3,↓wA,↓wC,wB,aF,aE,reduceEqDiff,reduceAdd,reduceSub,reduceIte,reduceCtorEq,Nat.reduceBEq,reduceLT])|(with_reducible refine aI ?_ ?_; focus (simp only [bQ]; omega))|((first|apply aB|apply aC|apply aA)<;>intro h<;>try simp only [h]))
    refine cR (bx:=false) (r:=1) hD rfl rfl rfl ?_
    rintro _ _ ⟨⟨u,rfl⟩,rfl⟩
    repeat' (first|(simp only [aX,hi0,hgF,hcmf,Int.toNat_natCast,Option.map_some,aD,aS,hxs,↓fS,Cs.s_isV,Cs.s_size,eW,eV,jK,jI,iQ,iU,gE,fZ,aJ,↓wA,↓wC,wB,aF,aE,reduceEqDiff,reduceAdd,reduceSub,reduceIte,reduceCtorEq,Nat.reduceBEq,reduceLT])|((first|apply aB|apply aC|apply aA)<;>intro h<;>try simp only [h]))
    all_goals exact ⟨by rw [hB],fun _=>hO.symm⟩
   | false =>
    have h3':=of_decide_eq_false h3
    cases h4:decide ((0:Int) < (x.h.length:Int)) with
    | true =>
     have h4':=of_decide_eq_true h4
     have hB:bP o x=false:=by unfold bP; rw [h0,h2,h3,decide_eq_false (by omega)]; rfl
     repeat' (first|(simp only [aX,hi0,hgF,hcmf,Int.toNat_natCast,Option.map_some,aD,aS,hxs,↓fS,Cs.s_isV,Cs.s_size,eW,eV,jK,jI,iQ,iU,gE,fZ,aJ,h1,h2,h3,h4,↓wA,↓wC,wB,aF,aE,reduceEqDiff,reduceAdd,reduceSub,reduceIte,reduceCtorEq,Nat.reduceBEq,reduceLT])|((first|apply aB|apply aC|apply aA)<;>intro h<;>try simp only [h]))
     all_goals exact ⟨by rw [hB],fun h=>by rw [hB] at h; cases h⟩
    | false =>
     have h4':=of_decide_eq_false h4
     have hB:bP o x=true:=by unfold bP; rw [h0,h2,h3,decide_eq_true (show x.h.length=0 by omega)]; rfl
     have hO:(fU o i x).o=bD o (.sl true 4 (dl Cs.o (o.cs.eraseIdx i))) (.sl true 1 (dl D.str (o.led ++ [g8 x.i o.day]))):=by
      unfold fU; rw [if_neg h2',if_neg h3']; rfl
     have hiR:bQ .i64 x.i:=by simp only [bQ]; omega
     have hdR:bQ .i64 o.day:=by simp only [bQ]; omega
     have hN1:=vC x.i hiR
     have hN2:=vC o.day hdR
     have hl1:=jE x.i hiR
     have hl2:=jE o.day hdR
     have hE:=aFF (Lib.itoa x.i) (Lib.itoa o.day)
     have hE':114 :: (Lib.itoa x.i ++ 32 :: 100 :: Lib.itoa o.day)=g8 x.i o.day:=rfl
     repeat' (first|(simp only [aX,hi0,hgF,hcmf,Int.toNat_natCast,Option.map_some,aD,aS,hxs,↓fS,Cs.s_isV,Cs.s_size,eW,eV,jK,jI,iQ,iU,gE,fZ,aJ,h1,h2,h3,h4,↓wA,↓wC,wB,aF,aE,reduceEqDiff,reduceAdd,reduceSub,reduceIte,reduceCtorEq,Nat.reduceBEq,reduceLT])|((first|apply aB|apply aC|apply aA)<;>intro h<;>try simp only [h]))
     refine cB _ (cU 0 none [4] (es:=1) (xs:=dl D.str o.led) rfl rfl) fun v2=>?_
     simp only [bR,↓wA,↓wC,wB,aF,aE,reduceEqDiff,reduceAdd,reduceSub,reduceIte,reduceCtorEq,Nat.reduceBEq,reduceLT]
     repeat' (first|(simp only [aX,hi0,hgF,hcmf,Int.toNat_natCast,Option.map_some,aD,aS,hxs,↓fS,Cs.s_isV,Cs.s_size,eW,eV,jK,jI,iQ,iU,gE,fZ,aJ,h1,h2,h3,h4,hE,hE',aEP,↓wA,↓wC,wB,aF,aE,reduceEqDiff,reduceAdd,reduceSub,reduceIte,reduceCtorEq,Nat.reduceBEq,reduceLT])|(refine aG (hN1) rfl rfl ?_)|(refine aH (hN1) rfl rfl ?_)|(refine aG (hN2) rfl rfl ?_)|(refine aH (hN2) rfl rfl ?_)|(refine bO ?_)|(with_reducible refine aI ?_ ?_; focus (simp only [bQ]; omega))|(with_reducible refine aQ ?_ ?_; focus omega)|(with_reducible refine aQ ?_ ?_; focus (simp only [List.length_append,List.length_cons,List.length_nil]; omega))|((first|apply aB|apply aC|apply aA)<;>intro h<;>try simp only [h]))
     refine aQ (by simp) (aQ (by omega) ?_)
     refine aI (by simp only [bQ]; omega) ?_
     refine cR (bx:=false) (r:=1) hD rfl rfl rfl ?_
     rintro _ _ ⟨⟨u,rfl⟩,rfl⟩
     repeat' (first|(simp only [aX,hi0,hgF,hcmf,Int.toNat_natCast,Option.map_some,aD,aS,hxs,↓fS,Cs.s_isV,Cs.s_size,eW,eV,jK,jI,iQ,iU,gE,fZ,aJ,↓wA,↓wC,wB,aF,aE,reduceEqDiff,reduceAdd,reduceSub,reduceIte,reduceCtorEq,Nat.reduceBEq,reduceLT])|((first|apply aB|apply aC|apply aA)<;>intro h<;>try simp only [h]))
     all_goals exact ⟨by rw [hB],fun _=>hO.symm⟩
end Go.Pe.Tryz
set_option maxRecDepth 100000
set_option maxHeartbeats 4000000
set_option linter.all false
namespace Go.Pe.Tryz
open Nat (reduceEqDiff reduceAdd reduceSub reduceLT)
open Go.Proofs.Tryz
def gJ (k id a v:Int):D:=.st (.cons (.int .i64 k) (.cons (.int .i64 id) (.cons (.int .i64 a) (.cons (.int .i64 v) .nil))))
theorem kK {k id a v:Int}:(gJ k id a v).noOwn=true:=rfl
theorem rA {k id a v:Int}:(gJ k id a v).isV=true:=rfl
theorem oP {k id a v:Int}:(gJ k id a v).size=4:=rfl
theorem aDN {k id a v:Int}:(gJ k id a v).unown=gJ k id a v:=rfl
theorem rW {o:List Ob} {K:SV->Prop} {k id a v:Int}:cE o (some 4) (gJ k id a v) K=K (.d (gJ k id a v)):=by simp [gJ,cE,D.size,D.noOwn]
def aFM (r:Option Off) (x':D) (rs:List D):Prop:=rs=[.bool r.isSome]/\∀ o',r=some o'->x'=o'.o
theorem gR {r:Option Off} {x':D} (h:r=none):aFM r x' [.bool false]:=⟨by rw [h]; rfl,fun o' e=>by rw [h] at e; cases e⟩
theorem kR {r:Option Off} {x':D} {o':Off} (h:r=some o') (hx:x'=o'.o):aFM r x' [.bool true]:=⟨by rw [h]; rfl,fun o'' e=>by rw [h] at e; injection e with e; rw [<- e,hx]⟩
def rF (o:Off) (i:Nat) (x:Cs) (k v:Int):Option Off :=
 if k=3 then (if x.h.contains v=true then none else some { o with cs:=o.cs.set i { x with h:=gA v x.h } })
 else if k=5 then (if 1<=v then some { o with cs:=o.cs.set i { x with d:=x.d + v } } else none)
 else if k=6 then (if v=0/\bP o x=true then some (fU o i x) else none)
 else none
theorem zY (o:Off) (i:Nat) (x:Cs) (k id a v:Int) (ho:bN o=true) (hr:o.cs[i]?=some x) (hv0:0<=v) (hv1:v<=20000):sO prog 73 true o.o [.int .i64 i,gJ k id a v] (aFM (rF o i x k v)):=by
 have hp:=bT ho
 have hx:=cG (hp.2.2.2.2.2.2.2.2.2 x (List.mem_of_getElem? hr))
 have hil:=aK hr
 have hi0:(0:Int)<=(i:Int):=by omega
 have hgn:(dl Cs.o o.cs).nth i=some (x.p (.sl true 1 (dl iD x.h))):=by rw [aX,hr]; rfl
 have hgs:∀ (y:D),((dl Cs.o o.cs).setN i y).nth i=some y:=fun y=>by rw [kQ,if_pos rfl,hgn]; rfl
 have hxo:x.h.length<=1048576:=by omega
 have hdl:(1:Int)<=o.cs.length:=by omega
 cases h3:decide (k=3) with
 | true =>
  have h3':=of_decide_eq_true h3
  have hC:=y6 x.h v hxo
  have hC':Fn prog 59 [.sl false 1 (dl iD x.h).unown,.int .i64 v] (fun rs=>rs=[.bool (x.h.contains v)]):=by rw [cH]; exact hC
  have hO:rF o i x k v=if x.h.contains v=true then none else some { o with cs:=o.cs.set i { x with h:=gA v x.h } }:=if_pos h3'
  refine kF (ps:=[[1,1,0,1,0,1,0,1,1,1,0],[1,1,0,1,0,1,0,1,1,1,0],[1,1,0,1,0,1,0,1,1,0],[1,1,0,1,0,1,0,0,0],[1,0]]) (fn:=f73) (by exact func73) c73 r73 (n:=65) (by rfl) (rv:=[.tmp 6]) (by rfl) (by decide) (by simp) ?_
  unfold m73
  try simp only [wQ]
  simp only [cI,dD]
  simp only [Off.o,bD,gJ]
  repeat' (first|(simp only [aD,↓wA,↓wC,wB,aF,aE,reduceEqDiff,reduceAdd,reduceSub,reduceIte,reduceCtorEq,Nat.reduceBEq,reduceLT])|((first|apply aB|apply aC|apply aA)<;>intro h<;>try simp only [h]))
  refine cB _ (cU 0 none [1] (es:=4) (xs:=dl Cs.o o.cs) rfl rfl) fun v1=>?_
  simp only [bR,↓wA,↓wC,wB,aF,aE,reduceEqDiff,reduceAdd,reduceSub,reduceIte,reduceCtorEq,Nat.reduceBEq,reduceLT]
  repeat' (first|(simp only [hi0,Int.toNat_natCast,hgn,hgs,h3,aD,↓wA,↓wC,wB,aF,aE,reduceEqDiff,reduceAdd,reduceSub,reduceIte,reduceCtorEq,Nat.reduceBEq,reduceLT])|((first|apply aB|apply aC|apply aA)<;>intro h<;>try simp only [h]))
  refine cB _ (cU 2 (some i) [3] (es:=1) (xs:=dl iD x.h) rfl (by simp only [fD,hgn,Option.bind_some,cA])) fun v2=>?_
  simp only [bR,hgn,Option.getD_some,b9,↓wA,↓wC,wB,aF,aE,reduceEqDiff,reduceAdd,reduceSub,reduceIte,reduceCtorEq,Nat.reduceBEq,reduceLT]
  cases hc:x.h.contains v with
  | true =>
   rw [hc] at hC' hO
   repeat' (first|(simp only [hi0,Int.toNat_natCast,hgn,hgs,h3,aD,cD,dF,cA,b9,↓wA,↓wC,wB,aF,aE,reduceEqDiff,reduceAdd,reduceSub,reduceIte,reduceCtorEq,Nat.reduceBEq,reduceLT])|(refine aG (hC') rfl rfl ?_)|(refine aH (hC') rfl rfl ?_)|((first|apply aB|apply aC|apply aA)<;>intro h<;>try simp only [h]))
   all_goals exact gR (by rw [hO]; rfl)
  | false =>
   rw [hc] at hC' hO
   have hnv:v ∉ x.h:=fun h=>by rw [List.contains_iff_mem.2 h] at hc; cases hc
   have hS:=aHM v x.h (aCw hx.2.2.2.2.2.2.2.2) hnv (by omega)
   repeat' (first|(simp only [hi0,Int.toNat_natCast,hgn,hgs,h3,aD,cD,dF,cA,b9,gS,gU,gW,eX,aJ,↓wA,↓wC,wB,aF,aE,reduceEqDiff,reduceAdd,reduceSub,reduceIte,reduceCtorEq,Nat.reduceBEq,reduceLT])|(refine aG (hC') rfl rfl ?_)|(refine aH (hC') rfl rfl ?_)|(refine bO ?_)|(with_reducible refine aQ ?_ ?_; focus (simp; done))|(with_reducible refine aQ ?_ ?_; focus omega)|((first|apply aB|apply aC|apply aA)<;>intro h<;>try simp only [h]))
   refine cB _ (cU 2 (some i) [3] (es:=1) (xs:=dl iD (x.h ++ [v])) rfl (by simp only [fD,hgs,Option.bind_some,cA])) fun v3=>?_
   simp only [bR,hgs,Option.getD_some,b9,cD,↓wA,↓wC,wB,aF,aE,reduceEqDiff,reduceAdd,reduceSub,reduceIte,reduceCtorEq,Nat.reduceBEq,reduceLT]
   repeat' (first|(simp only [hi0,Int.toNat_natCast,hgn,hgs,h3,aD,cD,dF,cA,b9,gS,gU,gW,eX,aJ,↓wA,↓wC,wB,aF,aE,reduceEqDiff,reduceAdd,reduceSub,reduceIte,reduceCtorEq,Nat.reduceBEq,reduceLT])|((first|apply aB|apply aC|apply aA)<;>intro h<;>try simp only [h]))
   refine oZ (bx:=false) (r:=7) hS rfl rfl rfl ?_
   repeat' (first|(simp only [hi0,Int.toNat_natCast,hgn,hgs,h3,aD,cD,dF,cA,b9,gS,gU,gW,eX,aJ,↓wA,↓wC,wB,aF,aE,reduceEqDiff,reduceAdd,reduceSub,reduceIte,reduceCtorEq,Nat.reduceBEq,reduceLT])|((first|apply aB|apply aC|apply aA)<;>intro h<;>try simp only [h]))
   refine aR (fV 2 8 7 (some i) [3] rfl (by simp only [fD,hgs,Option.bind_some,cA]) rfl rfl (by decide) rfl) ?_
   simp only [bR,hgs,Option.getD_some,b9,cD,↓wA,↓wC,wB,aF,aE,reduceEqDiff,reduceAdd,reduceSub,reduceIte,reduceCtorEq,Nat.reduceBEq,reduceLT]
   refine aR (fV 0 3 2 none [1] rfl rfl rfl rfl (by decide) rfl) ?_
   simp only [bR,↓wA,↓wC,wB,aF,aE,reduceEqDiff,reduceAdd,reduceSub,reduceIte,reduceCtorEq,Nat.reduceBEq,reduceLT]
   repeat' (first|(simp only [hi0,Int.toNat_natCast,hgn,hgs,h3,aD,cD,dF,cA,b9,gS,gU,gW,eX,aJ,↓wA,↓wC,wB,aF,aE,reduceEqDiff,reduceAdd,reduceSub,reduceIte,reduceCtorEq,Nat.reduceBEq,reduceLT])|((first|apply aB|apply aC|apply aA)<;>intro h<;>try simp only [h]))
   have e:x.p (.sl true 1 (dl iD (gA v x.h)))=Cs.o { x with h:=gA v x.h }:=rfl
   all_goals refine kR (o':={ o with cs:=o.cs.set i { x with h:=gA v x.h } }) (by rw [hO]; rfl) ?_
   rw [e,gD]; rfl
 | false =>
  have h3':=of_decide_eq_false h3
  cases h5:decide (k=5) with
  | true =>
   have h5':=of_decide_eq_true h5
   have hO:rF o i x k v=if 1<=v then some { o with cs:=o.cs.set i { x with d:=x.d + v } } else none:=by unfold rF; rw [if_neg h3',if_pos h5']
   refine kF (ps:=[[1,1,0,1,0,1,1,1,0,1,1],[1,0]]) (fn:=f73) (by exact func73) c73 r73 (n:=65) (by rfl) (rv:=[.tmp 6]) (by rfl) (by decide) (by simp) ?_
   unfold m73
   try simp only [wQ]
   simp only [cI,dD]
   simp only [Off.o,bD,gJ]
   repeat' (first|(simp only [aD,↓wA,↓wC,wB,aF,aE,reduceEqDiff,reduceAdd,reduceSub,reduceIte,reduceCtorEq,Nat.reduceBEq,reduceLT])|((first|apply aB|apply aC|apply aA)<;>intro h<;>try simp only [h]))
   refine cB _ (cU 0 none [1] (es:=4) (xs:=dl Cs.o o.cs) rfl rfl) fun v1=>?_
   simp only [bR,↓wA,↓wC,wB,aF,aE,reduceEqDiff,reduceAdd,reduceSub,reduceIte,reduceCtorEq,Nat.reduceBEq,reduceLT]
   repeat' (first|(simp only [hi0,Int.toNat_natCast,hgn,hgs,h3,aD,cD,dF,cA,b9,gS,gU,gW,eX,aJ,h5,↓wA,↓wC,wB,aF,aE,reduceEqDiff,reduceAdd,reduceSub,reduceIte,reduceCtorEq,Nat.reduceBEq,reduceLT])|(refine bO ?_)|(with_reducible refine aI ?_ ?_; focus (simp only [bQ]; omega))|((first|apply aB|apply aC|apply aA)<;>intro h<;>try simp only [h]))
   refine aR (fV 0 3 2 none [1] rfl rfl rfl rfl (by decide) rfl) ?_
   simp only [bR,↓wA,↓wC,wB,aF,aE,reduceEqDiff,reduceAdd,reduceSub,reduceIte,reduceCtorEq,Nat.reduceBEq,reduceLT]
   repeat' (first|(simp only [hi0,Int.toNat_natCast,hgn,hgs,h3,aD,cD,dF,cA,b9,gS,gU,gW,eX,aJ,↓wA,↓wC,wB,aF,aE,reduceEqDiff,reduceAdd,reduceSub,reduceIte,reduceCtorEq,Nat.reduceBEq,reduceLT])|((first|apply aB|apply aC|apply aA)<;>intro h<;>try simp only [h]))
   have e:Cs.p { i:=x.i,a:=x.a,d:=x.d + v,h:=x.h } (.sl true 1 (dl iD x.h))=Cs.o { x with d:=x.d + v }:=rfl
   by_cases hv:1<=v
   ·rw [decide_eq_true hv]
    all_goals refine kR (o':={ o with cs:=o.cs.set i { x with d:=x.d + v } }) (by rw [hO,if_pos hv]) ?_
    rw [e,gD]; rfl
   ·rw [decide_eq_false hv]
    exact gR (by rw [hO,if_neg hv])
  | false =>
   have h5':=of_decide_eq_false h5
   cases h6:decide (k=6) with
   | true =>
    have h6':=of_decide_eq_true h6
    have hO:rF o i x k v=if v=0/\bP o x=true then some (fU o i x) else none:=by unfold rF; rw [if_neg h3',if_neg h5',if_pos h6']
    refine kF (ps:=[[1,1,0,1,0,1,1,1,1,1,0,0],[1,0]]) (fn:=f73) (by exact func73) c73 r73 (n:=65) (by rfl) (rv:=[.tmp 6]) (by rfl) (by decide) (by simp) ?_
    unfold m73
    try simp only [wQ]
    simp only [cI,dD]
    simp only [Off.o,bD,gJ]
    repeat' (first|(simp only [aD,↓wA,↓wC,wB,aF,aE,reduceEqDiff,reduceAdd,reduceSub,reduceIte,reduceCtorEq,Nat.reduceBEq,reduceLT])|((first|apply aB|apply aC|apply aA)<;>intro h<;>try simp only [h]))
    refine cB _ (cU 0 none [1] (es:=4) (xs:=dl Cs.o o.cs) rfl rfl) fun v1=>?_
    simp only [bR,↓wA,↓wC,wB,aF,aE,reduceEqDiff,reduceAdd,reduceSub,reduceIte,reduceCtorEq,Nat.reduceBEq,reduceLT]
    repeat' (first|(simp only [hi0,Int.toNat_natCast,hgn,hgs,h3,aD,cD,dF,cA,b9,gS,gU,gW,eX,aJ,h5,h6,↓wA,↓wC,wB,aF,aE,reduceEqDiff,reduceAdd,reduceSub,reduceIte,reduceCtorEq,Nat.reduceBEq,reduceLT])|(with_reducible refine aI ?_ ?_; focus (simp only [bQ]; omega))|((first|apply aB|apply aC|apply aA)<;>intro h<;>try simp only [h]))
    refine aR (fV 0 3 2 none [1] rfl rfl rfl rfl (by decide) rfl) ?_
    simp only [bR,↓wA,↓wC,wB,aF,aE,reduceEqDiff,reduceAdd,reduceSub,reduceIte,reduceCtorEq,Nat.reduceBEq,reduceLT]
    by_cases hv:v=0
    ·have hvd:decide (v=0)=true:=decide_eq_true hv
     repeat' (first|(simp only [hi0,Int.toNat_natCast,hgn,hgs,h3,aD,cD,dF,cA,b9,gS,gU,gW,eX,aJ,hvd,↓wA,↓wC,wB,aF,aE,reduceEqDiff,reduceAdd,reduceSub,reduceIte,reduceCtorEq,Nat.reduceBEq,reduceLT])|((first|apply aB|apply aC|apply aA)<;>intro h<;>try simp only [h]))
     refine cR (bx:=true) (r:=0) (aHp o i x ho hr) rfl rfl rfl ?_
     rintro x' _ ⟨rfl,hy⟩
     repeat' (first|(simp only [hi0,Int.toNat_natCast,hgn,hgs,h3,aD,cD,dF,cA,b9,gS,gU,gW,eX,aJ,hvd,↓wA,↓wC,wB,aF,aE,reduceEqDiff,reduceAdd,reduceSub,reduceIte,reduceCtorEq,Nat.reduceBEq,reduceLT])|((first|apply aB|apply aC|apply aA)<;>intro h<;>try simp only [h]))
     cases hB:bP o x with
     | true=>exact kR (by rw [hO,if_pos ⟨hv,hB⟩]) (hy hB)
     | false=>exact gR (by rw [hO,if_neg (fun h=>by rw [hB] at h; cases h.2)])
    ·have hvd:decide (v=0)=false:=decide_eq_false hv
     repeat' (first|(simp only [hi0,Int.toNat_natCast,hgn,hgs,h3,aD,cD,dF,cA,b9,gS,gU,gW,eX,aJ,hvd,↓wA,↓wC,wB,aF,aE,reduceEqDiff,reduceAdd,reduceSub,reduceIte,reduceCtorEq,Nat.reduceBEq,reduceLT])|((first|apply aB|apply aC|apply aA)<;>intro h<;>try simp only [h]))
     all_goals exact gR (by rw [hO,if_neg (fun h=>hv h.1)])
   | false =>
    have h6':=of_decide_eq_false h6
    have hO:rF o i x k v=none:=by unfold rF; rw [if_neg h3',if_neg h5',if_neg h6']
    refine kF (ps:=[[1,0]]) (fn:=f73) (by exact func73) c73 r73 (n:=65) (by rfl) (rv:=[.tmp 6]) (by rfl) (by decide) (by simp) ?_
    unfold m73
    try simp only [wQ]
    simp only [cI,dD]
    simp only [Off.o,bD,gJ]
    repeat' (first|(simp only [aD,↓wA,↓wC,wB,aF,aE,reduceEqDiff,reduceAdd,reduceSub,reduceIte,reduceCtorEq,Nat.reduceBEq,reduceLT])|((first|apply aB|apply aC|apply aA)<;>intro h<;>try simp only [h]))
    refine cB _ (cU 0 none [1] (es:=4) (xs:=dl Cs.o o.cs) rfl rfl) fun v1=>?_
    simp only [bR,↓wA,↓wC,wB,aF,aE,reduceEqDiff,reduceAdd,reduceSub,reduceIte,reduceCtorEq,Nat.reduceBEq,reduceLT]
    repeat' (first|(simp only [hi0,Int.toNat_natCast,hgn,hgs,h3,aD,cD,dF,cA,b9,gS,gU,gW,eX,aJ,h5,h6,↓wA,↓wC,wB,aF,aE,reduceEqDiff,reduceAdd,reduceSub,reduceIte,reduceCtorEq,Nat.reduceBEq,reduceLT])|(with_reducible refine aI ?_ ?_; focus (simp only [bQ]; omega))|((first|apply aB|apply aC|apply aA)<;>intro h<;>try simp only [h]))
    all_goals exact gR hO
end Go.Pe.Tryz
set_option maxRecDepth 100000
set_option maxHeartbeats 4000000
set_option linter.all false
namespace Go.Pe.Tryz
open Nat (reduceEqDiff reduceAdd reduceSub reduceLT)
open Go.Proofs.Tryz
theorem vK:∀ (xs:List D) (i:Nat) (y:D),(eP xs).setN i y=eP (xs.set i y)
 | [],i,y=>by cases i<;>rfl
 | x :: xs,0,y=>rfl
 | x :: xs,i + 1,y=>by
  have:=vK xs i y
  simp only [eP,D.setN,List.set_cons_succ,this]
theorem a7 {xs:D}:(D.st xs).isStB=true:=rfl
theorem aFm (o:Off) (id a v:Int) (ho:bN o=true) (hv0:0<=v) (hv1:v<=20000):sO prog 39 true o.o [gJ 2 id a v] (aFM (wT o 2 id a v)):=by
 have hp:=bT ho
 have ho0:=dK ho
 have hA:=xO o id ho0
 have hM:wT o 2 id a v=if 0<=d9 o.cs id then none else some { o with cs:=eC ⟨id,a,o.day + v,[]⟩ o.cs }:=if_pos rfl
 have h2:decide ((2:Int)=2)=true:=rfl
 cases hf:decide (0<=d9 o.cs id) with
 | true =>
  have hf':=of_decide_eq_true hf
  rw [if_pos hf'] at hM
  refine fK (fn:=f39) (by exact func39) c39 r39 (n:=109) (by rfl) (rv:=[.tmp 4]) (by rfl) (by decide) (by simp) ?_
  unfold m39
  try simp only [wQ]
  simp only [Off.o,bD,gJ]
  repeat' (first|(simp only [aD,a7,hf,↓wA,↓wC,wB,aF,aE,reduceEqDiff,reduceAdd,reduceSub,reduceIte,reduceCtorEq,Nat.reduceBEq,reduceLT])|(refine aH hA (congrArg (fun d:D=>some [d,.int .i64 id]) (Off.o_unown o)) rfl ?_)|((first|apply aB|apply aC|apply aA)<;>intro h<;>try simp only [h]))
  all_goals exact gR hM
 | false =>
  have hf':=of_decide_eq_false hf
  rw [if_neg hf'] at hM
  refine kF (ps:=[[1,1,0,0,1,0,1,1,1,1,0],[1,1,0,0,1,0,1,1,1,1,0],[1,1,0,0,1,0,1,1,1,1,0],[1,1,0,0,1,0,1,0]]) (fn:=f39) (by exact func39) c39 r39 (n:=109) (by rfl) (rv:=[.tmp 4]) (by rfl) (by decide) (by simp) ?_
  unfold m39
  try simp only [wQ]
  simp only [cI,dD]
  simp only [Off.o,bD,gJ]
  repeat' (first|(simp only [aD,a7,hf,↓wA,↓wC,wB,aF,aE,reduceEqDiff,reduceAdd,reduceSub,reduceIte,reduceCtorEq,Nat.reduceBEq,reduceLT])|(refine aH hA (congrArg (fun d:D=>some [d,.int .i64 id]) (Off.o_unown o)) rfl ?_)|((first|apply aB|apply aC|apply aA)<;>intro h<;>try simp only [h]))
  refine cB _ (cU 0 none [1] (es:=4) (xs:=dl Cs.o o.cs) rfl rfl) fun v1=>?_
  simp only [bR,↓wA,↓wC,wB,aF,aE,reduceEqDiff,reduceAdd,reduceSub,reduceIte,reduceCtorEq,Nat.reduceBEq,reduceLT]
  repeat' (first|(simp only [aD,↓wA,↓wC,wB,aF,aE,reduceEqDiff,reduceAdd,reduceSub,reduceIte,reduceCtorEq,Nat.reduceBEq,reduceLT])|((first|apply aB|apply aC|apply aA)<;>intro h<;>try simp only [h]))
  refine cZ (fun j:Nat=>⟨[(0,.ptr 0 0 []),(3,.ptr 1 0 []),(6,.d (.int .i64 j))],[.box (bD o (.lnk 3 v1) (.sl true 1 (dl D.str o.led))),.box (gJ 2 id a v),.val (.sl true 4 (dl Cs.o o.cs)),.tag 2 v1]⟩) (fun j=>j<=o.cs.length/\∀ m x,m < j->o.cs[m]?=some x->x.i < id) (fun j=>o.cs.length - j) 0 (aN _ rfl ⟨⟨rfl,rfl⟩,⟨rfl,rfl⟩,⟨rfl,rfl⟩,trivial⟩) ⟨by omega,fun m x hm=>by omega⟩ ?_
  rintro j ⟨hj1,hj2⟩
  simp only [bD,gJ]
  have hcm:∀ x:Cs,Cs.o x=x.p (.sl true 1 (dl iD x.h)):=fun _=>rfl
  have hj0:(0:Int)<=(j:Int):=by omega
  by_cases hlt:j < o.cs.length
  ·obtain ⟨x,hr⟩:=bM hlt
   have hd:decide ((j:Int) < (o.cs.length:Int))=true:=decide_eq_true (by omega)
   cases hx:decide (x.i < id) with
   | true =>
    repeat' (first|(simp only [aD,aJ,aX,hd,hx,hr,hj0,hcm,Int.toNat_natCast,Option.map_some,o9,oW,↓wA,↓wC,wB,aF,aE,reduceEqDiff,reduceAdd,reduceSub,reduceIte,reduceCtorEq,Nat.reduceBEq,reduceLT])|(with_reducible refine aI ?_ ?_; focus (simp only [bQ]; omega))|((first|apply aB|apply aC|apply aA)<;>intro h<;>try simp only [h]))
    refine ⟨j + 1,(aN _ rfl ⟨⟨rfl,rfl⟩,⟨rfl,rfl⟩,⟨rfl,rfl⟩,trivial⟩),⟨by omega,fun m y hm hy=>?_⟩,by omega⟩
    by_cases e:m=j
    ·subst e
     rw [hr] at hy
     injection hy with hy
     rw [<- hy]; exact of_decide_eq_true hx
    ·exact hj2 m y (by omega) hy
   | false =>
    have hpl:lQ id o.cs=j:=mD o.cs j hj1 hj2 (fun y hy=>by rw [hr] at hy; injection hy with hy; rw [<- hy]; exact of_decide_eq_false hx)
    repeat' (first|(simp only [aD,aJ,aX,hd,hx,hr,hj0,hcm,Int.toNat_natCast,Option.map_some,o9,oW,↓wA,↓wC,wB,aF,aE,reduceEqDiff,reduceAdd,reduceSub,reduceIte,reduceCtorEq,Nat.reduceBEq,reduceLT])|(refine bO ?_)|(with_reducible refine aI ?_ ?_; focus (simp only [bQ]; omega))|((first|apply aB|apply aC|apply aA)<;>intro h<;>try simp only [h]))
    have hpe:eC ⟨id,a,o.day + v,[]⟩ o.cs=o.cs.take j ++ ⟨id,a,o.day + v,[]⟩ :: o.cs.drop j:=by unfold eC; rw [hpl]
    refine j7 _ (cU 5 (some 0) [3] (es:=1) (xs:=.nil) rfl rfl) fun v2=>?_
    simp only [bR,D.nth,Option.getD_some,gG,D.setN,↓wA,↓wC,wB,aF,aE,reduceEqDiff,reduceAdd,reduceSub,reduceIte,reduceCtorEq,Nat.reduceBEq,reduceLT]
    refine cJ 5 ?_
    simp only [i6,iV,gZ,D.unown,↓wA,↓wC,wB,aF,aE,reduceEqDiff,reduceAdd,reduceSub,reduceIte,reduceCtorEq,Nat.reduceBEq,reduceLT]
    have hI:=uM (o.cs.map Cs.o) (Cs.p ⟨id,a,o.day + v,[]⟩ (.lnk 7 v2)) (fun d hd=>by obtain ⟨y,_,rfl⟩:=List.mem_map.1 hd; rfl) rfl j (by simpa using hj1) (by simp; omega)
    refine cR (bx:=false) (r:=2) hI rfl rfl rfl ?_
    rintro _ _ ⟨⟨u,rfl⟩,rfl⟩
    have hnth:(eP ((o.cs.map Cs.o).take j ++ Cs.p ⟨id,a,o.day + v,[]⟩ (.lnk 7 v2) :: (o.cs.map Cs.o).drop j)).nth j=some (Cs.p ⟨id,a,o.day + v,[]⟩ (.lnk 7 v2)):=by
     rw [kZ,List.getElem?_append_right (by simp; omega)]
     simp [Nat.min_eq_left hj1]
    have hset:(eP ((o.cs.map Cs.o).take j ++ Cs.p ⟨id,a,o.day + v,[]⟩ (.lnk 7 v2) :: (o.cs.map Cs.o).drop j)).setN j (Cs.p ⟨id,a,o.day + v,[]⟩ (.sl true 1 .nil))=dl Cs.o (eC ⟨id,a,o.day + v,[]⟩ o.cs):=by
     rw [vK,List.set_append_right _ _ (by simp; omega),hpe]
     simp [Nat.min_eq_left hj1,dl]
     rfl
    generalize eP ((o.cs.map Cs.o).take j ++ Cs.p ⟨id,a,o.day + v,[]⟩ (.lnk 7 v2) :: (o.cs.map Cs.o).drop j)=NL at hnth hset
    repeat' (first|(simp only [aD,↓wA,↓wC,wB,aF,aE,reduceEqDiff,reduceAdd,reduceSub,reduceIte,reduceCtorEq,Nat.reduceBEq,reduceLT])|((first|apply aB|apply aC|apply aA)<;>intro h<;>try simp only [h]))
    refine cB _ (cU 0 none [1] (es:=4) (xs:=NL) rfl rfl) fun v3=>?_
    simp only [bR,↓wA,↓wC,wB,aF,aE,reduceEqDiff,reduceAdd,reduceSub,reduceIte,reduceCtorEq,Nat.reduceBEq,reduceLT]
    refine aR (fV 9 7 6 (some j) [3] rfl (by simp only [fD,hnth,Option.bind_some,cA]) rfl rfl (by decide) rfl) ?_
    simp only [bR,hnth,Option.getD_some,b9,hset,↓wA,↓wC,wB,aF,aE,reduceEqDiff,reduceAdd,reduceSub,reduceIte,reduceCtorEq,Nat.reduceBEq,reduceLT]
    refine aR (fV 0 10 9 none [1] rfl rfl rfl rfl (by decide) rfl) ?_
    simp only [bR,↓wA,↓wC,wB,aF,aE,reduceEqDiff,reduceAdd,reduceSub,reduceIte,reduceCtorEq,Nat.reduceBEq,reduceLT]
    repeat' (first|(simp only [aD,↓wA,↓wC,wB,aF,aE,reduceEqDiff,reduceAdd,reduceSub,reduceIte,reduceCtorEq,Nat.reduceBEq,reduceLT])|((first|apply aB|apply aC|apply aA)<;>intro h<;>try simp only [h]))
    all_goals exact kR hM rfl
  ·have e:j=o.cs.length:=by omega
   have hd:decide ((j:Int) < (o.cs.length:Int))=false:=decide_eq_false (by omega)
   have hpl:lQ id o.cs=j:=mD o.cs j hj1 hj2 (fun y hy=>by have:=aK hy; omega)
   repeat' (first|(simp only [aD,aJ,aX,hd,hj0,hcm,Int.toNat_natCast,Option.map_some,o9,oW,↓wA,↓wC,wB,aF,aE,reduceEqDiff,reduceAdd,reduceSub,reduceIte,reduceCtorEq,Nat.reduceBEq,reduceLT])|(refine bO ?_)|(with_reducible refine aI ?_ ?_; focus (simp only [bQ]; omega))|((first|apply aB|apply aC|apply aA)<;>intro h<;>try simp only [h]))
   have hpe:eC ⟨id,a,o.day + v,[]⟩ o.cs=o.cs.take j ++ ⟨id,a,o.day + v,[]⟩ :: o.cs.drop j:=by unfold eC; rw [hpl]
   refine j7 _ (cU 5 (some 0) [3] (es:=1) (xs:=.nil) rfl rfl) fun v2=>?_
   simp only [bR,D.nth,Option.getD_some,gG,D.setN,↓wA,↓wC,wB,aF,aE,reduceEqDiff,reduceAdd,reduceSub,reduceIte,reduceCtorEq,Nat.reduceBEq,reduceLT]
   refine cJ 5 ?_
   simp only [i6,iV,gZ,D.unown,↓wA,↓wC,wB,aF,aE,reduceEqDiff,reduceAdd,reduceSub,reduceIte,reduceCtorEq,Nat.reduceBEq,reduceLT]
   have hI:=uM (o.cs.map Cs.o) (Cs.p ⟨id,a,o.day + v,[]⟩ (.lnk 7 v2)) (fun d hd=>by obtain ⟨y,_,rfl⟩:=List.mem_map.1 hd; rfl) rfl j (by simpa using hj1) (by simp; omega)
   refine cR (bx:=false) (r:=2) hI rfl rfl rfl ?_
   rintro _ _ ⟨⟨u,rfl⟩,rfl⟩
   have hnth:(eP ((o.cs.map Cs.o).take j ++ Cs.p ⟨id,a,o.day + v,[]⟩ (.lnk 7 v2) :: (o.cs.map Cs.o).drop j)).nth j=some (Cs.p ⟨id,a,o.day + v,[]⟩ (.lnk 7 v2)):=by
    rw [kZ,List.getElem?_append_right (by simp; omega)]
    simp [Nat.min_eq_left hj1]
   have hset:(eP ((o.cs.map Cs.o).take j ++ Cs.p ⟨id,a,o.day + v,[]⟩ (.lnk 7 v2) :: (o.cs.map Cs.o).drop j)).setN j (Cs.p ⟨id,a,o.day + v,[]⟩ (.sl true 1 .nil))=dl Cs.o (eC ⟨id,a,o.day + v,[]⟩ o.cs):=by
    rw [vK,List.set_append_right _ _ (by simp; omega),hpe]
    simp [Nat.min_eq_left hj1,dl]
    rfl
   generalize eP ((o.cs.map Cs.o).take j ++ Cs.p ⟨id,a,o.day + v,[]⟩ (.lnk 7 v2) :: (o.cs.map Cs.o).drop j)=NL at hnth hset
   repeat' (first|(simp only [aD,↓wA,↓wC,wB,aF,aE,reduceEqDiff,reduceAdd,reduceSub,reduceIte,reduceCtorEq,Nat.reduceBEq,reduceLT])|((first|apply aB|apply aC|apply aA)<;>intro h<;>try simp only [h]))
   refine cB _ (cU 0 none [1] (es:=4) (xs:=NL) rfl rfl) fun v3=>?_
   simp only [bR,↓wA,↓wC,wB,aF,aE,reduceEqDiff,reduceAdd,reduceSub,reduceIte,reduceCtorEq,Nat.reduceBEq,reduceLT]
   refine aR (fV 9 7 6 (some j) [3] rfl (by simp only [fD,hnth,Option.bind_some,cA]) rfl rfl (by decide) rfl) ?_
   simp only [bR,hnth,Option.getD_some,b9,hset,↓wA,↓wC,wB,aF,aE,reduceEqDiff,reduceAdd,reduceSub,reduceIte,reduceCtorEq,Nat.reduceBEq,reduceLT]
   refine aR (fV 0 10 9 none [1] rfl rfl rfl rfl (by decide) rfl) ?_
   simp only [bR,↓wA,↓wC,wB,aF,aE,reduceEqDiff,reduceAdd,reduceSub,reduceIte,reduceCtorEq,Nat.reduceBEq,reduceLT]
   repeat' (first|(simp only [aD,↓wA,↓wC,wB,aF,aE,reduceEqDiff,reduceAdd,reduceSub,reduceIte,reduceCtorEq,Nat.reduceBEq,reduceLT])|((first|apply aB|apply aC|apply aA)<;>intro h<;>try simp only [h]))
   all_goals exact kR hM rfl
theorem wS (o:Off) (k id a v:Int) (ho:bN o=true) (hv0:0<=v) (hv1:v<=20000):sO prog 39 true o.o [gJ k id a v] (aFM (wT o k id a v)):=by
 have hp:=bT ho
 have ho0:=dK ho
 have hA:=xO o id ho0
 cases k2:decide (k=2) with
 | true =>
  have:=of_decide_eq_true k2
  subst this
  exact aFm o id a v ho hv0 hv1
 | false =>
  have k2':=of_decide_eq_false k2
  cases ha:decide (a=0) with
  | false =>
   have ha':=of_decide_eq_false ha
   have hM:wT o k id a v=none:=by unfold wT; rw [if_neg k2',if_pos ha']
   refine fK (fn:=f39) (by exact func39) c39 r39 (n:=109) (by rfl) (rv:=[.tmp 4]) (by rfl) (by decide) (by simp) ?_
   unfold m39
   try simp only [wQ]
   simp only [Off.o,bD,gJ]
   repeat' (first|(simp only [aD,a7,k2,ha,↓wA,↓wC,wB,aF,aE,reduceEqDiff,reduceAdd,reduceSub,reduceIte,reduceCtorEq,Nat.reduceBEq,reduceLT])|(refine aH hA (congrArg (fun d:D=>some [d,.int .i64 id]) (Off.o_unown o)) rfl ?_)|((first|apply aB|apply aC|apply aA)<;>intro h<;>try simp only [h]))
   all_goals exact gR hM
  | true =>
   have ha':=of_decide_eq_true ha
   have hM0:wT o k id a v=wT o k id a v:=rfl
   conv at hM0=>rhs; unfold wT
   rw [if_neg k2',if_neg (show ¬ a≠0 from fun h=>h ha')] at hM0
   cases k1:decide (k=1) with
   | true =>
    have k1':=of_decide_eq_true k1
    rw [if_pos k1'] at hM0
    refine fK (fn:=f39) (by exact func39) c39 r39 (n:=109) (by rfl) (rv:=[.tmp 4]) (by rfl) (by decide) (by simp) ?_
    unfold m39
    try simp only [wQ]
    simp only [Off.o,bD,gJ]
    cases hi:decide (id=0) with
    | true =>
     have hi':=of_decide_eq_true hi
     repeat' (first|(simp only [aD,a7,k2,ha,k1,hi,↓wA,↓wC,wB,aF,aE,reduceEqDiff,reduceAdd,reduceSub,reduceIte,reduceCtorEq,Nat.reduceBEq,reduceLT])|(refine bO ?_)|(refine aH hA (congrArg (fun d:D=>some [d,.int .i64 id]) (Off.o_unown o)) rfl ?_)|(with_reducible refine aI ?_ ?_; focus (simp only [bQ]; omega))|((first|apply aB|apply aC|apply aA)<;>intro h<;>try simp only [h]))
     by_cases hv:1<=v
     ·rw [decide_eq_true hv]
      exact kR (o':={ o with day:=o.day + v }) (by rw [hM0,if_pos ⟨hi',hv⟩]) rfl
     ·rw [decide_eq_false hv]
      exact gR (by rw [hM0,if_neg (fun h=>hv h.2)])
    | false =>
     have hi':=of_decide_eq_false hi
     repeat' (first|(simp only [aD,a7,k2,ha,k1,hi,↓wA,↓wC,wB,aF,aE,reduceEqDiff,reduceAdd,reduceSub,reduceIte,reduceCtorEq,Nat.reduceBEq,reduceLT])|(refine bO ?_)|(refine aH hA (congrArg (fun d:D=>some [d,.int .i64 id]) (Off.o_unown o)) rfl ?_)|(with_reducible refine aI ?_ ?_; focus (simp only [bQ]; omega))|((first|apply aB|apply aC|apply aA)<;>intro h<;>try simp only [h]))
     all_goals exact gR (by rw [hM0,if_neg (fun h=>hi' h.1)])
   | false =>
    have k1':=of_decide_eq_false k1
    rw [if_neg k1'] at hM0
    cases k4:decide (k=4) with
    | true =>
     have k4':=of_decide_eq_true k4
     rw [if_pos k4'] at hM0
     have hnd:∀ x∈o.cs,x.h.Nodup:=fun x hx=>zL (aCw (cG (hp.2.2.2.2.2.2.2.2.2 x hx)).2.2.2.2.2.2.2.2)
     refine fK (fn:=f39) (by exact func39) c39 r39 (n:=109) (by rfl) (rv:=[.tmp 4]) (by rfl) (by decide) (by simp) ?_
     unfold m39
     try simp only [wQ]
     simp only [Off.o,bD,gJ]
     cases hi:decide (id=0) with
     | true =>
      have hi':=of_decide_eq_true hi
      repeat' (first|(simp only [aD,a7,k2,ha,k1,k4,hi,↓wA,↓wC,wB,aF,aE,reduceEqDiff,reduceAdd,reduceSub,reduceIte,reduceCtorEq,Nat.reduceBEq,reduceLT])|(refine aH hA (congrArg (fun d:D=>some [d,.int .i64 id]) (Off.o_unown o)) rfl ?_)|((first|apply aB|apply aC|apply aA)<;>intro h<;>try simp only [h]))
      refine oZ (bx:=true) (r:=0) (aBt o v ho0 hnd) rfl rfl rfl ?_
      repeat' (first|(simp only [aD,hi,↓wA,↓wC,wB,aF,aE,reduceEqDiff,reduceAdd,reduceSub,reduceIte,reduceCtorEq,Nat.reduceBEq,reduceLT])|((first|apply aB|apply aC|apply aA)<;>intro h<;>try simp only [h]))
      cases hh:pE v o.cs with
      | true=>exact kR (o':={ o with cs:=o.cs.map (nN v) }) (by rw [hM0,if_pos ⟨hi',hh⟩]) rfl
      | false=>exact gR (by rw [hM0,if_neg (fun h=>by rw [hh] at h; cases h.2)])
     | false =>
      have hi':=of_decide_eq_false hi
      repeat' (first|(simp only [aD,a7,k2,ha,k1,k4,hi,↓wA,↓wC,wB,aF,aE,reduceEqDiff,reduceAdd,reduceSub,reduceIte,reduceCtorEq,Nat.reduceBEq,reduceLT])|(refine aH hA (congrArg (fun d:D=>some [d,.int .i64 id]) (Off.o_unown o)) rfl ?_)|((first|apply aB|apply aC|apply aA)<;>intro h<;>try simp only [h]))
      all_goals exact gR (by rw [hM0,if_neg (fun h=>hi' h.1)])
    | false =>
     have k4':=of_decide_eq_false k4
     rw [if_neg k4'] at hM0
     refine fK (fn:=f39) (by exact func39) c39 r39 (n:=109) (by rfl) (rv:=[.tmp 4]) (by rfl) (by decide) (by simp) ?_
     unfold m39
     try simp only [wQ]
     simp only [Off.o,bD,gJ]
     cases hf:decide (0<=d9 o.cs id) with
     | false =>
      have hf':=of_decide_eq_false hf
      rw [if_neg hf'] at hM0
      repeat' (first|(simp only [aD,a7,k2,ha,k1,k4,hf,↓wA,↓wC,wB,aF,aE,reduceEqDiff,reduceAdd,reduceSub,reduceIte,reduceCtorEq,Nat.reduceBEq,reduceLT])|(refine aH hA (congrArg (fun d:D=>some [d,.int .i64 id]) (Off.o_unown o)) rfl ?_)|((first|apply aB|apply aC|apply aA)<;>intro h<;>try simp only [h]))
      all_goals exact gR hM0
     | true =>
      have hf':=of_decide_eq_true hf
      rw [if_pos hf'] at hM0
      rcases lC o.cs id with ⟨_,hn⟩|⟨i,x,hi,hr,_⟩
      ·exact absurd hf' (of_decide_eq_false hn)
      ·rw [hi,Int.toNat_natCast,hr] at hM0
       rw [hi] at hA hf
       have hS:=zY o i x k id a v ho hr hv0 hv1
       repeat' (first|(simp only [aD,a7,k2,ha,k1,k4,hf,↓wA,↓wC,wB,aF,aE,reduceEqDiff,reduceAdd,reduceSub,reduceIte,reduceCtorEq,Nat.reduceBEq,reduceLT])|(refine aH hA (congrArg (fun d:D=>some [d,.int .i64 id]) (Off.o_unown o)) rfl ?_)|((first|apply aB|apply aC|apply aA)<;>intro h<;>try simp only [h]))
       refine cR (bx:=true) (r:=0) hS rfl rfl rfl ?_
       rintro x' _ ⟨rfl,hx'⟩
       repeat' (first|(simp only [aD,hf,↓wA,↓wC,wB,aF,aE,reduceEqDiff,reduceAdd,reduceSub,reduceIte,reduceCtorEq,Nat.reduceBEq,reduceLT])|((first|apply aB|apply aC|apply aA)<;>intro h<;>try simp only [h]))
       have hM1:wT o k id a v=rF o i x k v:=hM0
       all_goals exact ⟨by rw [hM1],fun o' h=>hx' o' (by rw [<- hM1]; exact h)⟩
end Go.Pe.Tryz
set_option maxRecDepth 100000
set_option maxHeartbeats 4000000
set_option linter.all false
namespace Go.Pe.Tryz
open Nat (reduceEqDiff reduceAdd reduceSub reduceLT)
open Go.Proofs.Tryz
def rY:Off:=⟨0,[],0,0,[]⟩
theorem aA5 (v:Int) (h:List Int):(gA v h).length=h.length + 1:=by simp [gA]; omega
theorem tX {xs:List Cs} {i:Nat} {y:Cs} (h:oV xs) (hy:y.ok0):oV (xs.set i y):=⟨by simpa using h.1,fun z hz=>by
 rcases List.mem_or_eq_of_mem_set hz with hz|hz
 ·exact h.2 z hz
 ·rw [hz]; exact hy⟩
theorem aIa {o o':Off} {k id a v:Int} (ho:bN o=true) (hx:∀ (i:Nat) (x:Cs),o.cs[i]?=some x->dP x=true) (h:wT o k id a v=some o'):o'.ok0:=by
 have hp:=bT ho
 have h0:=dK ho
 unfold wT at h
 by_cases k2:k=2
 ·rw [if_pos k2] at h
  split at h
  ·cases h
  ·injection h with h
   subst h
   refine ⟨⟨?_,fun x hx=>?_⟩,h0.2⟩
   ·simp [eC]; omega
   ·rcases List.mem_append.1 hx with hx|hx
    ·exact h0.1.2 x (List.mem_of_mem_take hx)
    ·rcases List.mem_cons.1 hx with rfl|hx
     ·simp [Cs.ok0]
     ·exact h0.1.2 x (List.mem_of_mem_drop hx)
 ·rw [if_neg k2] at h
  split at h
  ·cases h
  split at h
  ·split at h
   ·injection h with h; subst h; exact h0
   ·cases h
  split at h
  ·split at h
   ·injection h with h
    subst h
    refine ⟨⟨by simpa using h0.1.1,fun x hx=>?_⟩,h0.2⟩
    obtain ⟨y,hy,rfl⟩:=List.mem_map.1 hx
    have h1:=h0.1.2 y hy
    have h2:=List.length_filter_le (fun n=>!decide (n=v)) y.h
    exact Nat.le_trans h2 h1
   ·cases h
  split at h
  ·split at h
   ·rename_i x hr
    have hxc:=cG (hx _ x hr)
    split at h
    ·split at h
     ·cases h
     ·injection h with h
      subst h
      refine ⟨tX h0.1 ?_,h0.2⟩
      show (gA v x.h).length<=1048576
      rw [aA5]; omega
    ·split at h
     ·split at h
      ·injection h with h
       subst h
       refine ⟨tX h0.1 ?_,h0.2⟩
       show x.h.length<=1048576
       omega
      ·cases h
     ·split at h
      ·split at h
       ·injection h with h
        subst h
        have he:∀ i,oV (o.cs.eraseIdx i):=fun i=>⟨by have:=List.length_eraseIdx_le o.cs i; omega,fun y hy=>h0.1.2 y (List.mem_of_mem_eraseIdx hy)⟩
        unfold fU
        split
        ·exact ⟨he _,h0.2⟩
        ·split
         ·exact ⟨he _,h0.2⟩
         ·refine ⟨he _,by simp; omega,fun s hs=>?_⟩
          rcases List.mem_append.1 hs with hs|hs
          ·exact h0.2.2 s hs
          ·rw [List.mem_singleton.1 hs]
           have h1:=jE x.i (by simp only [bQ]; omega)
           have h2:=jE o.day (by simp only [bQ]; omega)
           simp [g8]; omega
       ·cases h
      ·cases h
   ·cases h
  ·cases h
def kD:Option Off->List D
 | some o'=>[o'.o,.bool true]
 | none=>[rY.o,.bool false]
theorem sP (o:Off) (k id a v:Int) (ho:o.ok0):Fn prog 7 [o.s,gJ k id a v] (fun rs=>rs=kD (d6 o k id a v)):=by
 have hV:=fW o ho
 have hW:=dB v 0 20000
 cases hv:bN o with
 | false =>
  have hR:d6 o k id a v=none:=by unfold d6; rw [hv]; rfl
  rw [hR]
  rw [hv] at hV
  refine a8 (fn:=f7) (by exact func7) c7 r7 (n:=29) (by rfl) (rv:=[.cell 4 27,.tmp 5]) (by rfl) (by simp) ?_
  unfold m7
  try simp only [wQ]
  simp only [gJ]
  repeat' (first|(simp only [Off.s_noOwn,Off.s_isV,↓bG,aD,↓wA,↓wC,wB,aF,aE,reduceEqDiff,reduceAdd,reduceSub,reduceIte,reduceCtorEq,Nat.reduceBEq,reduceLT,aP])|(refine aG hV (by simp [bE,bV,Off.s_unown]) rfl ?_)|((first|apply aB|apply aC|apply aA)<;>intro h<;>try simp only [h]))
  all_goals rfl
 | true =>
  rw [hv] at hV
  cases hw:aU v 0 20000 with
  | false =>
   have hR:d6 o k id a v=none:=by unfold d6; rw [hv,hw]; rfl
   rw [hR]
   rw [hw] at hW
   refine a8 (fn:=f7) (by exact func7) c7 r7 (n:=29) (by rfl) (rv:=[.cell 4 27,.tmp 5]) (by rfl) (by simp) ?_
   unfold m7
   try simp only [wQ]
   simp only [gJ]
   repeat' (first|(simp only [Off.s_noOwn,Off.s_isV,↓bG,aD,↓wA,↓wC,wB,aF,aE,reduceEqDiff,reduceAdd,reduceSub,reduceIte,reduceCtorEq,Nat.reduceBEq,reduceLT,aP])|(refine aG (hW) rfl rfl ?_)|(refine aH (hW) rfl rfl ?_)|(refine aG hV (by simp [bE,bV,Off.s_unown]) rfl ?_)|((first|apply aB|apply aC|apply aA)<;>intro h<;>try simp only [h]))
   all_goals rfl
  | true =>
   have hwi:=gX.1 hw
   rw [hw] at hW
   have hR:d6 o k id a v=(wT o k id a v).filter bN:=by unfold d6; rw [hv,hw]; rfl
   have hC:=pL o ho
   have hS:=wS o k id a v hv hwi.1 hwi.2
   have hno:∀ q:Off,q.o.noOwn=false:=fun q=>by simp [Off.o,bD,D.noOwn]
   have hst:∀ q:Off,q.o.isStB=true:=fun q=>rfl
   refine a8 (fn:=f7) (by exact func7) c7 r7 (n:=29) (by rfl) (rv:=[.cell 4 27,.tmp 5]) (by rfl) (by simp) ?_
   unfold m7
   try simp only [wQ]
   simp only [gJ]
   repeat' (first|(simp only [Off.s_noOwn,Off.s_isV,Off.o_isV,Off.o_size,Off.s_size,hno,↓bG,aD,↓wA,↓wC,wB,aF,aE,reduceEqDiff,reduceAdd,reduceSub,reduceIte,reduceCtorEq,Nat.reduceBEq,reduceLT,aP])|(refine aG (hW) rfl rfl ?_)|(refine aH (hW) rfl rfl ?_)|(refine aG hV (by simp [bE,bV,Off.s_unown]) rfl ?_)|(refine aG hC (by simp [bE,bV,Off.s_unown]) rfl ?_)|((first|apply aB|apply aC|apply aA)<;>intro h<;>try simp only [h]))
   refine cR (bx:=true) (r:=4) hS rfl rfl rfl ?_
   rintro x' _ ⟨rfl,hx'⟩
   rw [hR]
   cases hM:wT o k id a v with
   | none =>
    repeat' (first|(simp only [a7,aD,Option.isSome_none,↓wA,↓wC,wB,aF,aE,reduceEqDiff,reduceAdd,reduceSub,reduceIte,reduceCtorEq,Nat.reduceBEq,reduceLT,aP])|((first|apply aB|apply aC|apply aA)<;>intro h<;>try simp only [h]))
    all_goals rfl
   | some o' =>
    obtain rfl:=hx' o' hM
    have hV':=fW o' (aIa hv (fun i x hr=>(bT hv).2.2.2.2.2.2.2.2.2 x (List.mem_of_getElem? hr)) hM)
    cases hv':bN o' with
    | true =>
     rw [hv'] at hV'
     have hr:kD (Option.filter bN (some o'))=[o'.o,.bool true]:=by simp [Option.filter,hv',kD]
     rw [hr]
     repeat' (first|(simp only [a7,hst,aD,Option.isSome_some,Off.o_isV,Off.o_size,hno,↓bG,↓wA,↓wC,wB,aF,aE,reduceEqDiff,reduceAdd,reduceSub,reduceIte,reduceCtorEq,Nat.reduceBEq,reduceLT,aP])|(refine aG hV' (congrArg (fun d:D=>some [d]) (Off.o_unown o')) rfl ?_)|((first|apply aB|apply aC|apply aA)<;>intro h<;>try simp only [h]))
     exact ⟨_,rfl,rfl,rfl,rfl,rfl⟩
    | false =>
     rw [hv'] at hV'
     have hr:kD (Option.filter bN (some o'))=[rY.o,.bool false]:=by simp [Option.filter,hv',kD]
     rw [hr]
     repeat' (first|(simp only [a7,hst,aD,Option.isSome_some,Off.o_isV,Off.o_size,hno,↓bG,↓wA,↓wC,wB,aF,aE,reduceEqDiff,reduceAdd,reduceSub,reduceIte,reduceCtorEq,Nat.reduceBEq,reduceLT,aP])|(refine aG hV' (congrArg (fun d:D=>some [d]) (Off.o_unown o')) rfl ?_)|((first|apply aB|apply aC|apply aA)<;>intro h<;>try simp only [h]))
     all_goals rfl
end Go.Pe.Tryz
set_option maxRecDepth 100000
set_option maxHeartbeats 4000000
set_option linter.all false
namespace Go.Pe.Tryz
open Nat (reduceEqDiff reduceAdd reduceSub reduceLT)
open Go.Proofs.Tryz
structure Stp where
 k:Int
 i:Int
 a:Int
 v:Int
def Stp.d (s:Stp):D:=gJ s.k s.i s.a s.v
theorem eT:∀ xs:List Stp,(dl Stp.d xs).noOwn=true
 | []=>rfl
 | x :: xs=>by
  have:=eT xs
  simp only [dl,List.map_cons,eP,D.noOwn,Stp.d,kK,Bool.true_and] at this ⊢
  exact this
theorem oK:∀ xs:List Stp,(dl Stp.d xs).unown=dl Stp.d xs
 | []=>rfl
 | x :: xs=>by
  have:=oK xs
  simp only [dl,List.map_cons,eP,D.unown,Stp.d,aDN] at this ⊢
  rw [this]
def rE (p:Off×Int) (s:Stp):Off×Int:=match d6 p.1 s.k s.i s.a s.v with
 | some q=>(q,p.2 + 1)
 | none=>p
def iI (o:Off) (ss:List Stp) (i:Nat):Off×Int:=(ss.take i).foldl rE (o,0)
def lM (o:Off) (ss:List Stp):Option (Off×Int):=if (bN o && decide (ss.length<=40))=true then some (iI o ss ss.length) else none
def aJh:Option (Off×Int)->List D
 | some p=>[p.1.o,.int .i64 p.2,.bool true]
 | none=>[rY.o,.int .i64 0,.bool false]
theorem o7 {o:Off} {ss:List Stp} {i:Nat} {s:Stp} (h:ss[i]?=some s):iI o ss (i + 1)=rE (iI o ss i) s:=by
 unfold iI; rw [fX h,List.foldl_append]; rfl
theorem n6 {o q:Off} {k id a v:Int} (h:d6 o k id a v=some q):bN q=true:=by
 unfold d6 at h
 split at h
 ·cases hm:wT o k id a v with
  | none=>rw [hm] at h; cases h
  | some o' =>
   rw [hm] at h
   simp only [Option.filter] at h
   split at h
   ·rename_i hv; injection h with h; rw [<- h]; exact hv
   ·cases h
 ·cases h
theorem qM {o:Off} {ss:List Stp} (ho:bN o=true):∀ i,i<=ss.length->bN (iI o ss i).1=true/\0<=(iI o ss i).2/\(iI o ss i).2<=i
 | 0,_=>⟨ho,by simp [iI],by simp [iI]⟩
 | i + 1,h=>by
  obtain ⟨s,hs⟩:=bM (show i < ss.length by omega)
  have ih:=qM (ss:=ss) ho i (by omega)
  rw [o7 hs]
  unfold rE
  split
  ·rename_i q hq
   exact ⟨n6 hq,by show 0<=(iI o ss i).2 + 1; omega,by show (iI o ss i).2 + 1<=((i + 1:Nat):Int); omega⟩
  ·exact ⟨ih.1,ih.2.1,by have:=ih.2.2; omega⟩
theorem aBl (o:Off) (ss:List Stp) (ho:o.ok0) (hl:ss.length<=1048576):Fn prog 16 [o.s,.sl false 4 (dl Stp.d ss)] (fun rs=>rs=aJh (lM o ss)):=by
 have hV:=fW o ho
 cases hv:bN o with
 | false =>
  have hR:lM o ss=none:=by unfold lM; rw [hv]; rfl
  rw [hR]
  rw [hv] at hV
  refine a8 (fn:=f16) (by exact func16) c16 r16 (n:=42) (by rfl) (rv:=[.cell 4 27,.tmp 5,.tmp 6]) (by rfl) (by simp) ?_
  unfold m16
  try simp only [wQ]
  repeat' (first|(simp only [Off.s_noOwn,Off.s_isV,↓bG,eT,aD,↓wA,↓wC,wB,aF,aE,reduceEqDiff,reduceAdd,reduceSub,reduceIte,reduceCtorEq,Nat.reduceBEq,reduceLT,aP])|(refine aG hV (by simp [bE,bV,Off.s_unown]) rfl ?_)|((first|apply aB|apply aC|apply aA)<;>intro h<;>try simp only [h]))
  all_goals rfl
 | true =>
  rw [hv] at hV
  cases hn:decide ((40:Int) < ss.length) with
  | true =>
   have hn':=of_decide_eq_true hn
   have hR:lM o ss=none:=by unfold lM; rw [hv,decide_eq_false (show ¬ ss.length<=40 by omega)]; rfl
   rw [hR]
   refine a8 (fn:=f16) (by exact func16) c16 r16 (n:=42) (by rfl) (rv:=[.cell 4 27,.tmp 5,.tmp 6]) (by rfl) (by simp) ?_
   unfold m16
   try simp only [wQ]
   repeat' (first|(simp only [Off.s_noOwn,Off.s_isV,↓bG,eT,aJ,hn,aD,↓wA,↓wC,wB,aF,aE,reduceEqDiff,reduceAdd,reduceSub,reduceIte,reduceCtorEq,Nat.reduceBEq,reduceLT,aP])|(refine aG hV (by simp [bE,bV,Off.s_unown]) rfl ?_)|((first|apply aB|apply aC|apply aA)<;>intro h<;>try simp only [h]))
   all_goals rfl
  | false =>
   have hn':=of_decide_eq_false hn
   have hR:lM o ss=some (iI o ss ss.length):=by unfold lM; rw [hv,decide_eq_true (show ss.length<=40 by omega)]; rfl
   rw [hR]
   have hC:=pL o ho
   have hno:∀ q:Off,q.o.noOwn=false:=fun q=>by simp [Off.o,bD,D.noOwn]
   have hst:∀ q:Off,q.o.isStB=true:=fun q=>rfl
   refine a8 (fn:=f16) (by exact func16) c16 r16 (n:=42) (by rfl) (rv:=[.cell 4 27,.tmp 5,.tmp 6]) (by rfl) (by simp) ?_
   unfold m16
   try simp only [wQ]
   repeat' (first|(simp only [Off.s_noOwn,Off.s_isV,Off.o_isV,Off.o_size,Off.s_size,hno,hst,↓bG,eT,aJ,hn,aD,↓wA,↓wC,wB,aF,aE,reduceEqDiff,reduceAdd,reduceSub,reduceIte,reduceCtorEq,Nat.reduceBEq,reduceLT,aP])|(refine aG hV (by simp [bE,bV,Off.s_unown]) rfl ?_)|(refine aG hC (by simp [bE,bV,Off.s_unown]) rfl ?_)|((first|apply aB|apply aC|apply aA)<;>intro h<;>try simp only [h]))
   refine bL ss.length (fun i:Nat=>⟨[(2,.ptr 0 0 []),(4,.ptr 1 0 []),(7,.d (.int .i64 (iI o ss i).2)),(23,.d (.sl false 4 (dl Stp.d ss))),(24,.d (.int .i64 ss.length)),(25,.d (.int .i64 i))],[.box (iI o ss i).1.o,.box (.st (.cons (.int .i64 0) (.cons (.sl true 4 .nil) (.cons (.int .i64 0) (.cons (.int .i64 0) (.cons (.sl true 1 .nil) .nil)))))),.dead]⟩) (fun _=>True) ?_ trivial ?_ ?_
   ·exact (aN _ rfl ⟨⟨rfl,rfl⟩,⟨rfl,rfl⟩,⟨rfl,rfl⟩,⟨rfl,rfl⟩,⟨rfl,rfl⟩,⟨rfl,rfl⟩,trivial⟩)
   ·intro i hlt _ hd h0
    obtain ⟨s,hr⟩:=bM hlt
    have hk:=qM (ss:=ss) hv i (by omega)
    have hS:=sP (iI o ss i).1 s.k s.i s.a s.v (dK hk.1)
    have hN:=o7 (o:=o) hr
    generalize hqe:iI o ss i=qn at hk hS hN ⊢
    cases hq:d6 qn.1 s.k s.i s.a s.v with
    | none =>
     rw [hq] at hS
     have e:rE qn s=qn:=by unfold rE; rw [hq]
     rw [e] at hN
     repeat' (first|(simp only [aJ,hd,h0,hr,aX,Int.toNat_natCast,Option.map_some,Stp.d,rW,kK,rA,oP,Off.o_isV,Off.o_size,hno,hst,kD,aD,↓wA,↓wC,wB,aF,aE,reduceEqDiff,reduceAdd,reduceSub,reduceIte,reduceCtorEq,Nat.reduceBEq,reduceLT,aP])|(refine aG hS (congrArg (fun d:D=>some [d,gJ s.k s.i s.a s.v]) (Off.o_unown qn.1)) (by simp [kD,Off.o_own,D.allOwn]) ?_)|(refine aI (by simp only [bQ]; omega) ?_)|((first|apply aB|apply aC|apply aA)<;>intro h<;>try simp only [h]))
     refine ⟨i + 1,?_,by omega,by omega⟩
     rw [hN]
     exact (aN _ rfl ⟨⟨rfl,rfl⟩,⟨rfl,rfl⟩,⟨rfl,rfl⟩,⟨rfl,rfl⟩,⟨rfl,rfl⟩,⟨rfl,rfl⟩,trivial⟩)
    | some q =>
     rw [hq] at hS
     have e:rE qn s=(q,qn.2 + 1):=by unfold rE; rw [hq]
     rw [e] at hN
     repeat' (first|(simp only [aJ,hd,h0,hr,aX,Int.toNat_natCast,Option.map_some,Stp.d,rW,kK,rA,oP,Off.o_isV,Off.o_size,hno,hst,kD,aD,↓wA,↓wC,wB,aF,aE,reduceEqDiff,reduceAdd,reduceSub,reduceIte,reduceCtorEq,Nat.reduceBEq,reduceLT,aP])|(refine aG hS (congrArg (fun d:D=>some [d,gJ s.k s.i s.a s.v]) (Off.o_unown qn.1)) (by simp [kD,Off.o_own,D.allOwn]) ?_)|(refine aI (by simp only [bQ]; omega) ?_)|((first|apply aB|apply aC|apply aA)<;>intro h<;>try simp only [h]))
     refine ⟨_,rfl,rfl,rfl,?_⟩
     refine aI (by simp only [bQ]; omega) ?_
     refine aI (by simp only [bQ]; omega) ?_
     refine ⟨i + 1,?_,by omega,by omega⟩
     rw [hN]
     exact (aN _ rfl ⟨⟨rfl,rfl⟩,⟨rfl,rfl⟩,⟨rfl,rfl⟩,⟨rfl,rfl⟩,⟨rfl,rfl⟩,⟨rfl,rfl⟩,trivial⟩)
   ·intro _ hd
    repeat' (first|(simp only [aJ,hd,aD,Off.o_isV,Off.o_size,hno,↓wA,↓wC,wB,aF,aE,reduceEqDiff,reduceAdd,reduceSub,reduceIte,reduceCtorEq,Nat.reduceBEq,reduceLT,aP])|((first|apply aB|apply aC|apply aA)<;>intro h<;>try simp only [h]))
    exact aQ (hst _) ⟨_,rfl,rfl,rfl,rfl,rfl⟩
end Go.Pe.Tryz
