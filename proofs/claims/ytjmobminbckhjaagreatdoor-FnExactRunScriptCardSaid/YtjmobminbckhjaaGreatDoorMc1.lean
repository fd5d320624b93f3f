/-
The compact code of the functions that the law reaches,printed by gen.py,each with the proof that the machine's code is compiled to it.
-/
import Derived.Test.YtjmobminbckhjaaGreatDoorPeD
import Derived.Lib.ItoaNum
import Derived.Lib.LaidTab
import Derived.Test.YtjmobminbckhjaaGreatDoorProg
import Derived.KernelRfl
set_option maxRecDepth 100000
namespace Go.Pe.Tryz
open Go.Pe
theorem aM5 {P:Program} {n:String} {k:IntKind} {zs:List Int} {g:Nat} (hg:P.globalNamed n=some g) (w w':World) (_:w.heap.size<=w'.heap.size) (hk:∀ b,b < w.heap.size->w'.heap[b]?=w.heap[b]?) (h:Go.Lib.TabIs P w n k zs):Go.Lib.TabIs P w' n k zs:=by
 unfold Go.Lib.TabIs World.var? at h ⊢
 rw [hg] at h ⊢
 simp only [Option.bind_some] at h ⊢
 by_cases hb:g < w.heap.size
 ·rw [hk g hb]; exact h
 ·rw [Array.getElem?_eq_none (by omega)] at h
  simp at h
theorem aKw (g:Nat) (w w':World) (hk:∀ b,b < w.heap.size->w'.heap[b]?=w.heap[b]?) (h:∃ m,w.cell? ⟨g,0,none⟩=some (.int .i64 m)):∃ m,w'.cell? ⟨g,0,none⟩=some (.int .i64 m):=by
 obtain ⟨m,h⟩:=h
 by_cases hb:g < w.heap.size
 ·refine ⟨m,?_⟩
  unfold World.cell? at h ⊢
  rw [hk g hb]; exact h
 ·have hn:w.heap[g]?=none:=Array.getElem?_eq_none (by omega)
  simp [World.cell?,hn] at h
theorem aGu {P:Program} {n:String} {g:Nat} (hg:P.globalNamed n=some g) (w w':World) (hk:∀ b,b < w.heap.size->w'.heap[b]?=w.heap[b]?) (h:∃ t p,w.var? P n=some #[.iface t p]):∃ t p,w'.var? P n=some #[.iface t p]:=by
 obtain ⟨t,p,h⟩:=h
 refine ⟨t,p,?_⟩
 unfold World.var? at h ⊢
 rw [hg] at h ⊢
 simp only [Option.bind_some] at h ⊢
 by_cases hb:g < w.heap.size
 ·rw [hk g hb]; exact h
 ·rw [Array.getElem?_eq_none (by omega)] at h
  simp at h
noncomputable def prog : PG := ⟨Go.Proofs.Tryz.prog, fun w => (Go.Lib.TabIs Go.Proofs.Tryz.prog w "internal/strconv.uint64pow10" .u64 Go.Lib.pow10Tab) /\ (∃ m, w.cell? ⟨0, 0, none⟩ = some (.int .i64 m)) /\ (∃ t p, w.var? Go.Proofs.Tryz.prog "strconv.ErrSyntax" = some #[.iface t p]) /\ (∃ t p, w.var? Go.Proofs.Tryz.prog "strconv.ErrRange" = some #[.iface t p]), fun w w' hs hk h => ⟨aM5 (show Go.Proofs.Tryz.prog.globalNamed "internal/strconv.uint64pow10" = some 5 by kernel_rfl) w w' hs hk h.1, aKw 0 w w' hk h.2.1, aGu (show Go.Proofs.Tryz.prog.globalNamed "strconv.ErrSyntax" = some 1 by kernel_rfl) w w' hk h.2.2.1, aGu (show Go.Proofs.Tryz.prog.globalNamed "strconv.ErrRange" = some 2 by kernel_rfl) w w' hk h.2.2.2⟩⟩
theorem aTP {w : World} (h : prog.F w) : Go.Lib.TabIs Go.Proofs.Tryz.prog w "internal/strconv.uint64pow10" .u64 Go.Lib.pow10Tab := h.1
theorem aRn {w:World} (h:prog.F w):∃ m,w.cell? ⟨0,0,none⟩=some (.int .i64 m):=h.2.1
theorem aUc {w : World} (h : prog.F w) : ∃ t p, w.var? Go.Proofs.Tryz.prog "strconv.ErrSyntax" = some #[.iface t p] := h.2.2.1
theorem aVb {w : World} (h : prog.F w) : ∃ t p, w.var? Go.Proofs.Tryz.prog "strconv.ErrRange" = some #[.iface t p] := h.2.2.2
noncomputable def aV7 : Func := { name := "a", origin := "", params := #[], resultTypes := #[], nfree := 0, ntmps := 0, results := #[], body := some .skip, norace := false, tmpNames := #[] }
noncomputable def dD:Option Program:=some { toTables:=Go.Proofs.Tryz.progTables,funcs:=(List.replicate 296 aV7).toArray }
theorem zM:eH prog.P 27=some 3:=by kernel_rfl
theorem dE:eH prog.P 39=some 5:=by kernel_rfl
theorem eQ:eH prog.P 41=some 8:=by kernel_rfl
theorem xK:eH prog.P 59=some 2:=by kernel_rfl
theorem aA5:eH prog.P 91=some 4:=by kernel_rfl
theorem fJ:eH prog.P 115=some 4:=by kernel_rfl
def aSt:List (Nat×List Nat):=[(4,[3,4,10]),(5,[3,4]),(6,[3,4]),(1000005,[1,10,1,0,1,1,1,2,1,3,1,4,1,5,1,6,2,7,2,8,2,9,2,10,0]),(1000006,[1,6,1,0,1,1,1,2,1,3,2,4,2,5,2,6,0])]
def aNA:MC :=
 (.block 1
 (.seq
 (.reg false [3,4,10] [⟨(some 8),none,false,.mov (.t 4)⟩,
 ⟨(some 9),none,false,.len false (.t 8)⟩,
 ⟨(some 10),none,false,.bin .eql (.t 9) (.k (.d (.int .i64 2)))⟩])
 (.cond (.t 10)
 (.any [10] [3,4] (.q 0 ⟨(some 11),none,false,.ld none (.t 3)⟩ (.q 1 ⟨(some 12),none,false,.mov (.t 4)⟩ (.q 2 ⟨(some 13),none,false,.ia 1 (.t 12) (.k (.d (.int .i64 0)))⟩ (.q 3 ⟨(some 14),none,false,.ld none (.t 13)⟩ (.q 4 ⟨(some 15),none,false,.mov (.t 4)⟩ (.q 5 ⟨(some 16),none,false,.ia 1 (.t 15) (.k (.d (.int .i64 1)))⟩ (.q 6 ⟨(some 17),none,false,.ld none (.t 16)⟩ (.e 7 ⟨(some 18),none,true,.call 221 [(.t 14),(.t 17)]⟩ (.e 8 ⟨(some 19),none,true,.bs 1 1 (.int .i64 0) [(0,(.t 18))]⟩ (.e 9 ⟨(some 20),none,true,.app 1 8 (.t 11) (.t 19)⟩ (.e 10 ⟨none,none,true,.st 1 (.t 3) (.t 20)⟩ .done))))))))))))
 (.any [6] [3,4] (.q 0 ⟨(some 21),none,false,.ld none (.t 3)⟩ (.q 1 ⟨(some 22),none,false,.mov (.t 4)⟩ (.q 2 ⟨(some 23),none,false,.ia 1 (.t 22) (.k (.d (.int .i64 0)))⟩ (.q 3 ⟨(some 24),none,false,.ld none (.t 23)⟩ (.e 4 ⟨(some 25),none,true,.bs 1 1 (.int .i64 0) [(0,(.t 24))]⟩ (.e 5 ⟨(some 26),none,true,.app 1 8 (.t 21) (.t 25)⟩ (.e 6 ⟨none,none,true,.st 1 (.t 3) (.t 26)⟩ .done)))))))))))
theorem aQN:(Go.Proofs.Tryz.f195).body.bind (fun c=>(mE c).bind (comp prog.P (8,(Go.Proofs.Tryz.f195).ntmps) aSt))=some aNA:=by kernel_rfl
theorem aRs:(Go.Proofs.Tryz.f195).body.bind (fun c=>(mE c).map lN)=some true:=by kernel_rfl
noncomputable def ef4:CM dD prog 4 2 [(0,[1,2]),(1,[1,2,18]),(2,[4]),(3,[1,2,5]),(4,[1,2,5]),(5,[1,2,23]),(6,[4]),(7,[1,2,6,7]),(8,[1,2,6,7,8]),(9,[1,2,6,7,8,9,10]),(10,[1,2,6,7,8,9,10,47]),(11,[4]),(12,[1,2,6,7,8,9,10,52]),(13,[4]),(14,[1,2,6,7,8,9,10,11]),(15,[1,2,6,7,9,10,11]),(16,[1,2,6,7,9,68]),(17,[4]),(18,[1,2,6,7,9,12]),(19,[1,2,6,7,9,12]),(20,[1,2,6,7,9,12,13]),(21,[1,2,6,7,9,12,13]),(22,[1,2,6,7,9,12,13,76]),(23,[4]),(24,[1,2,6,7,9,12,79]),(25,[4]),(26,[6,7,9,12,14,15]),(27,[9,12,95]),(28,[4]),(29,[9,12,13]),(30,[12,13]),(31,[12,13,100]),(32,[4]),(33,[103]),(34,[4]),(35,[4])]:=.mk Go.Proofs.Tryz.func4
noncomputable def ef5:CM dD prog 5 2 [(0,[1,2]),(1,[1,2,18]),(2,[4]),(3,[1,2,5]),(4,[1,2,5]),(5,[1,2,23]),(6,[4]),(7,[1,2,6,7]),(8,[1,2,6,7,8]),(9,[1,2,6,7,8,9,10]),(10,[1,2,6,7,8,9,10,47]),(11,[4]),(12,[1,2,6,7,8,9,10,52]),(13,[4]),(14,[1,2,6,7,8,9,10,11]),(15,[1,2,6,7,9,10,11]),(16,[1,2,6,7,9,68]),(17,[4]),(18,[1,2,6,7,9,12]),(19,[1,2,6,7,9,12]),(20,[1,2,6,7,9,12,13]),(21,[1,2,6,7,9,12,13]),(22,[1,2,6,7,9,12,13,76]),(23,[4]),(24,[1,2,6,7,9,12,79]),(25,[4]),(26,[6,7,9,12,14,15]),(27,[9,12,95]),(28,[4]),(29,[9,12,13]),(30,[12,13]),(31,[12,13,100]),(32,[4]),(33,[103]),(34,[4]),(35,[4])]:=.mk Go.Proofs.Tryz.func5
noncomputable def ef6:CM dD prog 6 1 [(0,[1,2]),(1,[1,2]),(2,[1,2,11]),(3,[4]),(4,[1]),(5,[1,18]),(6,[4]),(7,[4])]:=.mk Go.Proofs.Tryz.func6
noncomputable def ef8:CM dD prog 8 1 [(0,[1,2]),(1,[1,2,3]),(2,[1,2,3]),(3,[1,2,3]),(4,[2,3]),(5,[2])]:=.mk Go.Proofs.Tryz.func8
noncomputable def aUm:CM dD prog 10 1 [(0,[1,2]),(1,[1,2]),(2,[1,2,10]),(3,[4]),(4,[1]),(5,[1,16]),(6,[4]),(7,[4])]:=.mk Go.Proofs.Tryz.func10
noncomputable def aDl:CM dD prog 11 2 [(0,[1,2,4]),(1,[1,2,4,6]),(2,[1,2,4,6,11]),(3,[4,5]),(4,[1,2,4,6,16]),(5,[4,5]),(6,[1,2,4,6,22]),(7,[4,5]),(8,[1,2,4,6,7,8]),(9,[1,2,4,6,8]),(10,[1,2,4,6,8,38]),(11,[1,2,4,6,8]),(12,[4,6,8]),(13,[4,5])]:=.mk Go.Proofs.Tryz.func11
noncomputable def aVp:CM dD prog 12 1 [(0,[1,2]),(1,[1,2,3]),(2,[1,2,3]),(3,[2,3]),(4,[2])]:=.mk Go.Proofs.Tryz.func12
noncomputable def aHu:CM dD prog 13 2 [(0,[1,2,4]),(1,[1,2,4,10]),(2,[4,5]),(3,[1,2,4,16]),(4,[4,5]),(5,[1,2,4,23]),(6,[4,5]),(7,[1,4,6]),(8,[1,4,6,7,8,9]),(9,[1,4,6,7,8,41]),(10,[1,4,6,8]),(11,[1,4,6,8]),(12,[1,4,6,8,46]),(13,[1,4,6,8]),(14,[4,6,8]),(15,[4,5]),(1000008,[3,10,11,12,1,0,1,2,3,2,1,3,2,3,3,2,4,1,5,1,6,1,7,1,8,2,9,2,10,2,11,2,12,0,2,9,2,4,1,5,1,6,1,7,1,8,2,10,2,11,2,12,0,2,9,2,3,2,4,1,5,1,6,1,7,1,8,2,10,2,11,2,12,0,3,2,3,3,2,1,3,2,4,1,5,1,6,1,7,1,8,2,9,2,10,2,11,2,12,0,2,9,2,4,1,5,1,6,1,7,1,8,2,10,2,11,2,12,0,2,9,2,1,2,4,1,5,1,6,1,7,1,8,2,10,2,11,2,12,0,2,9,3,2,1,2,3,2,4,1,5,1,6,1,7,1,8,2,10,2,11,2,12,0,2,3,2,1,2,4,1,5,1,6,1,7,1,8,2,10,2,11,2,12,0])]:=.mk Go.Proofs.Tryz.func13
noncomputable def aUB:CM dD prog 14 2 [(0,[2,3]),(1,[2,3,10]),(2,[4]),(3,[16]),(4,[4]),(5,[4])]:=.mk Go.Proofs.Tryz.func14
noncomputable def aVr:CM dD prog 16 1 [(0,[1,2]),(1,[1]),(2,[1,10]),(3,[4]),(4,[4])]:=.mk Go.Proofs.Tryz.func16
noncomputable def aGh:CM dD prog 17 2 [(0,[1,2]),(1,[1,2,6]),(2,[1,2,6,7]),(3,[2,6,7,25]),(4,[4,5]),(5,[2,6,7]),(6,[2,6,7,9]),(7,[2,6,7,9,30]),(8,[2,6,7,9]),(9,[2,6,7,8,9]),(10,[2,6,7,9]),(11,[4,5]),(1000009,[2,9,10,1,1,1,2,1,3,1,4,2,0,2,5,1,6,1,7,1,8,2,9,2,10,0])]:=.mk Go.Proofs.Tryz.func17
noncomputable def aGc:CM dD prog 18 2 [(0,[1,2]),(1,[1,2,19]),(2,[4,5]),(3,[2,6]),(4,[2,6,24]),(5,[4,5]),(6,[2,6,7]),(7,[2,7,25,26,27]),(8,[2,7,25,26,27,28]),(9,[2,7,9,25,26,27]),(10,[2,7,10,11,25,26,27]),(11,[2,7,11,25,26,27]),(12,[2,7,25,26,27]),(13,[2,7,25,26,27]),(14,[4,5])]:=.mk Go.Proofs.Tryz.func18
noncomputable def aU9:CM dD prog 19 2 [(0,[0,1]),(1,[0,1,10]),(2,[4]),(3,[0,1,5]),(4,[0,1,5,14]),(5,[0,1,5]),(6,[0,1,5,25]),(7,[4]),(8,[4])]:=.mk Go.Proofs.Tryz.func19
noncomputable def aTU:CM dD prog 20 1 [(0,[0,1]),(1,[0,1,5]),(2,[0,1,5,9]),(3,[0,1,5]),(4,[0,1,5]),(5,[0,1,5]),(6,[0,4])]:=.mk Go.Proofs.Tryz.func20
noncomputable def aT4:CM dD prog 21 1 [(0,[0,1]),(1,[0,1,5]),(2,[0,1,5,9]),(3,[0,1,5]),(4,[0,1,5,18]),(5,[4]),(6,[0,1,5]),(7,[4])]:=.mk Go.Proofs.Tryz.func21
noncomputable def aVz:CM dD prog 23 1 [(0,[1]),(1,[1,14]),(2,[2]),(3,[1,3,4]),(4,[1,3,4,6]),(5,[2])]:=.mk Go.Proofs.Tryz.func23
noncomputable def aT6:CM dD prog 27 1 [(0,[1,2]),(1,[1,2]),(2,[1,2,10]),(3,[4]),(4,[1]),(5,[1,16]),(6,[4]),(7,[4])]:=.mk Go.Proofs.Tryz.func27
end Go.Pe.Tryz
